import PyProof.Rows.All
import PySem.Challenge.RW_columnread_k21_known_readings
import Wide.All
import OpenK.AllK
import Wide.FinOn
import HandS.ForMost
import HandS.ForExc
import HandS.Evl
import HandS.Flow
import HandS.IsInst
import HandS.Style
import HandS.Conv
import HandS.Wide
import HandS.Property
import HandS.Text
import HandS.Dict
import HandS.Small
import HandS.Deep
import HandS.DictComp
import PyProof.ListStr
import HandS.TupAny
import HandS.TupMul
import HandS.SlotsOwn
import KE.GoesEnum
import HandS.Iter
import HandS.Star
import KE.KExcSuper
import KE.KSuper
import HandS.Nested
import HandS.ExcInit
import HandS.ExcIs
import HandS.ExcField
import PyProof.LongRange
import HandS.TryOnly
import HandS.SetFor
import HandS.Strs
import HandS.Zip
import KE.KDictZip
import KE.SortData
import HandS.SortInts
set_option Elab.async false
set_option linter.all false
set_option maxRecDepth 100000
set_option maxHeartbeats 4000000
set_option autoImplicit false
namespace CR
open PySem PySem.Spec PyProof.Rows L2
open Evl (Ex)

structure Gm where
  K : PySem.W.Frag
  C : Addr
inductive D where
  | p (d : PyData)
  | scr (st : PyData)
  | scp (ns : List Int)
  | own (a : Addr)
abbrev dI (i : Int) : D := .p (.int i)
abbrev dB (b : Bool) : D := .p (.bool b)
abbrev dS (s : Str) : D := .p (.str s)
abbrev dN : D := .p .none
abbrev dL (xs : List PyData) : D := .p (.list xs)
abbrev dT (xs : List PyData) : D := .p (.tuple xs)

mutual
inductive Dq (K : PySem.W.Frag) (H : Hp) : V → PyData → Prop
  | non : Dq K H .non .none
  | bl (b : Bool) : Dq K H (.bl b) (.bool b)
  | int (i : Int) : Dq K H (.int i) (.int i)
  | str (x : Str) : Dq K H (.str x) (.str x)
  | lst {a : Addr} {xs : List V} {ds : List PyData} : H a = some (.lst xs) → DqAll K H xs ds → Dq K H (.ref a) (.list ds)
  | tup {a : Addr} {xs : List V} {ds : List PyData} : SqT K H a xs → DqAll K H xs ds → Dq K H (.ref a) (.tuple ds)
inductive DqAll (K : PySem.W.Frag) (H : Hp) : List V → List PyData → Prop
  | nil : DqAll K H [] []
  | cons {v : V} {vs : List V} {d : PyData} {ds : List PyData} : Dq K H v d → DqAll K H vs ds → DqAll K H (v :: vs) (d :: ds)
end
section
variable {K : PySem.W.Frag} {H H' : Hp}
mutual
theorem dq_dp : ∀ (d : PyData) (v : V), Dq K H v d → L2.Dp K H v d
  | .none, _, h => by cases h; exact .non
  | .bool _, _, h => by cases h; exact .bl _
  | .int _, _, h => by cases h; exact .int _
  | .str _, _, h => by cases h; exact .str _
  | .list ds, _, h => by
    cases h with
    | lst h1 h2 => exact .lst (SqL.of h1) (dqa_dpa ds _ h2)
  | .tuple ds, _, h => by
    cases h with
    | tup h1 h2 => exact .tup h1 (dqa_dpa ds _ h2)
  | .dict _, _, h => by cases h
theorem dqa_dpa : ∀ (ds : List PyData) (vs : List V), DqAll K H vs ds → L2.DpAll K H vs ds
  | [], _, h => by cases h; exact .nil
  | d :: ds, _, h => by
    cases h with
    | cons h1 h2 => exact .cons (dq_dp d _ h1) (dqa_dpa ds _ h2)
end
mutual
theorem dp_mono (e : Ex H H') : ∀ (d : PyData) (v : V), Dq K H v d → Dq K H' v d
  | .none, _, h => by cases h; exact .non
  | .bool _, _, h => by cases h; exact .bl _
  | .int _, _, h => by cases h; exact .int _
  | .str _, _, h => by cases h; exact .str _
  | .list ds, _, h => by
    cases h with
    | lst h1 h2 => exact .lst (e _ _ h1) (dpa_mono e ds _ h2)
  | .tuple ds, _, h => by
    cases h with
    | tup h1 h2 => exact .tup (Evl.ex_t e h1) (dpa_mono e ds _ h2)
  | .dict _, _, h => by cases h
theorem dpa_mono (e : Ex H H') : ∀ (ds : List PyData) (vs : List V), DqAll K H vs ds → DqAll K H' vs ds
  | [], _, h => by cases h; exact .nil
  | d :: ds, _, h => by
    cases h with
    | cons h1 h2 => exact .cons (dp_mono e d _ h1) (dpa_mono e ds _ h2)
end
theorem dpa_len : ∀ {ds : List PyData} {vs : List V}, DqAll K H vs ds → vs.length = ds.length
  | [], _, h => by cases h; rfl
  | _ :: _, _, h => by
    cases h with
    | cons _ h2 => simp [dpa_len h2]
theorem dpa_get : ∀ {ds : List PyData} {vs : List V} {i : Nat} {d : PyData}, DqAll K H vs ds → ds[i]? = some d → ∃ v, vs[i]? = some v ∧ Dq K H v d
  | [], _, _, _, h, e => by simp at e
  | x :: xs, _, 0, d, h, e => by
    cases h with
    | cons h1 h2 =>
      simp at e; subst e
      exact ⟨_, rfl, h1⟩
  | x :: xs, _, i + 1, d, h, e => by
    cases h with
    | cons h1 h2 =>
      obtain ⟨v, a, b⟩ := dpa_get h2 (by simpa using e)
      exact ⟨v, by simpa using a, b⟩
theorem dpa_getv : ∀ {ds : List PyData} {vs : List V} {i : Nat} {v : V}, DqAll K H vs ds → vs[i]? = some v → ∃ d, ds[i]? = some d ∧ Dq K H v d
  | [], _, _, _, h, e => by cases h; simp at e
  | x :: xs, _, 0, d, h, e => by
    cases h with
    | cons h1 h2 =>
      simp at e; subst e
      exact ⟨_, rfl, h1⟩
  | x :: xs, _, i + 1, d, h, e => by
    cases h with
    | cons h1 h2 =>
      obtain ⟨v, a, b⟩ := dpa_getv h2 (by simpa using e)
      exact ⟨v, by simpa using a, b⟩
theorem dpa_append : ∀ {ds es : List PyData} {vs us : List V}, DqAll K H vs ds → DqAll K H us es → DqAll K H (vs ++ us) (ds ++ es)
  | [], _, _, _, h, h' => by cases h; exact h'
  | _ :: _, _, _, _, h, h' => by
    cases h with
    | cons h1 h2 => exact .cons h1 (dpa_append h2 h')
theorem dpa_ints : ∀ {ns : List Int}, DqAll K H (ns.map V.int) (ns.map PyData.int)
  | [] => .nil
  | n :: ns => .cons (.int n) dpa_ints
theorem dpa_ints_inv : ∀ {ns : List Int} {vs : List V}, DqAll K H vs (ns.map PyData.int) → vs = ns.map V.int
  | [], _, h => by cases h; rfl
  | n :: ns, _, h => by
    cases h with
    | cons h1 h2 =>
      cases h1
      rw [dpa_ints_inv h2]; rfl
theorem dpa_strs : ∀ {ns : List Str}, DqAll K H (ns.map V.str) (ns.map PyData.str)
  | [] => .nil
  | n :: ns => .cons (.str n) dpa_strs
theorem dpa_strs_inv : ∀ {ns : List Str} {vs : List V}, DqAll K H vs (ns.map PyData.str) → vs = ns.map V.str
  | [], _, h => by cases h; rfl
  | n :: ns, _, h => by
    cases h with
    | cons h1 h2 =>
      cases h1
      rw [dpa_strs_inv h2]; rfl
theorem dpa_bools_inv : ∀ {ns : List Bool} {vs : List V}, DqAll K H vs (ns.map PyData.bool) → vs = ns.map V.bl
  | [], _, h => by cases h; rfl
  | n :: ns, _, h => by
    cases h with
    | cons h1 h2 =>
      cases h1
      rw [dpa_bools_inv h2]; rfl
theorem dpa_reverse : ∀ {ds : List PyData} {vs : List V}, DqAll K H vs ds → DqAll K H vs.reverse ds.reverse
  | [], _, h => by cases h; exact .nil
  | _ :: _, _, h => by
    cases h with
    | cons h1 h2 =>
      simp only [List.reverse_cons]
      exact dpa_append (dpa_reverse h2) (.cons h1 .nil)
theorem dpa_take : ∀ {ds : List PyData} {vs : List V} (n : Nat), DqAll K H vs ds → DqAll K H (vs.take n) (ds.take n)
  | _, _, 0, _ => by simpa using DqAll.nil
  | [], _, _ + 1, h => by cases h; exact .nil
  | _ :: _, _, n + 1, h => by
    cases h with
    | cons h1 h2 => exact .cons h1 (dpa_take n h2)
theorem dpa_drop : ∀ {ds : List PyData} {vs : List V} (n : Nat), DqAll K H vs ds → DqAll K H (vs.drop n) (ds.drop n)
  | _, _, 0, h => by simpa using h
  | [], _, _ + 1, h => by cases h; exact .nil
  | _ :: _, _, n + 1, h => by
    cases h with
    | cons h1 h2 => exact dpa_drop n h2
theorem dpa_set : ∀ {ds : List PyData} {vs : List V} {d : PyData} {v : V} (i : Nat), Dq K H v d → DqAll K H vs ds → DqAll K H (vs.set i v) (ds.set i d)
  | [], _, _, _, _, _, h => by cases h; exact .nil
  | _ :: _, _, _, _, 0, hd, h => by
    cases h with
    | cons h1 h2 => exact .cons hd h2
  | _ :: _, _, _, _, i + 1, hd, h => by
    cases h with
    | cons h1 h2 => exact .cons h1 (dpa_set i hd h2)
theorem dpa_erase : ∀ {ds : List PyData} {vs : List V} (i : Nat), DqAll K H vs ds → DqAll K H (vs.eraseIdx i) (ds.eraseIdx i)
  | [], _, _, h => by cases h; exact .nil
  | _ :: _, _, 0, h => by
    cases h with
    | cons h1 h2 => exact h2
  | _ :: _, _, i + 1, h => by
    cases h with
    | cons h1 h2 => exact .cons h1 (dpa_erase i h2)
end

def Is (G : Gm) (H : Hp) (v : V) : D → Prop
  | .p d => Dq G.K H v d
  | .scr st => ∃ a dx r, v = .ref a ∧ H a = some (.ins G.C dx [("readings", r)]) ∧ Dq G.K H r st
  | .scp ns => ∃ a, v = .ref a ∧ SqL G.K H a (ns.map V.int)
  | .own a => v = .ref a
theorem Is.mono {G : Gm} {H H' : Hp} {v : V} {d : D} (h : Is G H v d) (e : Ex H H') : Is G H' v d := by
  cases d with
  | p d => exact dp_mono e d v h
  | scr st =>
    obtain ⟨a, dx, r, h1, h2, h3⟩ := h
    exact ⟨a, dx, r, h1, e _ _ h2, dp_mono e _ _ h3⟩
  | scp ns =>
    obtain ⟨a, h1, h2⟩ := h
    exact ⟨a, h1, Evl.ex_l e h2⟩
  | own a => exact h
theorem Is.int {G : Gm} {H : Hp} {v : V} {i : Int} (h : Is G H v (dI i)) : v = .int i := by
  have h : Dq G.K H v (.int i) := h
  cases h; rfl
theorem Is.bl {G : Gm} {H : Hp} {v : V} {i : Bool} (h : Is G H v (dB i)) : v = .bl i := by
  have h : Dq G.K H v (.bool i) := h
  cases h; rfl
theorem Is.str {G : Gm} {H : Hp} {v : V} {i : Str} (h : Is G H v (dS i)) : v = .str i := by
  have h : Dq G.K H v (.str i) := h
  cases h; rfl
theorem Is.non {G : Gm} {H : Hp} {v : V} (h : Is G H v dN) : v = .non := by
  have h : Dq G.K H v .none := h
  cases h; rfl
theorem Is.lst {G : Gm} {H : Hp} {v : V} {ds : List PyData} (h : Is G H v (dL ds)) : ∃ a vs, v = .ref a ∧ H a = some (.lst vs) ∧ DqAll G.K H vs ds := by
  have h : Dq G.K H v (.list ds) := h
  cases h with
  | lst h1 h2 => exact ⟨_, _, rfl, h1, h2⟩
theorem Is.tup {G : Gm} {H : Hp} {v : V} {ds : List PyData} (h : Is G H v (dT ds)) : ∃ a vs, v = .ref a ∧ SqT G.K H a vs ∧ DqAll G.K H vs ds := by
  have h : Dq G.K H v (.tuple ds) := h
  cases h with
  | tup h1 h2 => exact ⟨_, _, rfl, h1, h2⟩
def IsAll (G : Gm) (H : Hp) : List V → List D → Prop
  | [], [] => True
  | v :: vs, d :: ds => Is G H v d ∧ IsAll G H vs ds
  | _, _ => False
theorem IsAll.mono {G : Gm} {H H' : Hp} (e : Ex H H') : ∀ {vs : List V} {ds : List D}, IsAll G H vs ds → IsAll G H' vs ds
  | [], [], _ => trivial
  | _ :: _, _ :: _, h => ⟨h.1.mono e, IsAll.mono e h.2⟩
theorem IsAll.len {G : Gm} {H : Hp} : ∀ {vs : List V} {ds : List D}, IsAll G H vs ds → vs.length = ds.length
  | [], [], _ => rfl
  | _ :: _, _ :: _, h => by simp [IsAll.len h.2]
theorem IsAll.get {G : Gm} {H : Hp} : ∀ {vs : List V} {ds : List D} {i : Nat} {d : D}, IsAll G H vs ds → ds[i]? = some d → ∃ v, vs[i]? = some v ∧ Is G H v d
  | [], [], _, _, _, e => by simp at e
  | v :: _, x :: _, 0, d, h, e => by
    simp at e; subst e
    exact ⟨v, rfl, h.1⟩
  | _ :: _, _ :: _, i + 1, d, h, e => by
    obtain ⟨v, a, b⟩ := IsAll.get h.2 (by simpa using e)
    exact ⟨v, by simpa using a, b⟩
theorem IsAll.append {G : Gm} {H : Hp} : ∀ {vs us : List V} {ds es : List D}, IsAll G H vs ds → IsAll G H us es → IsAll G H (vs ++ us) (ds ++ es)
  | [], _, [], _, _, h => h
  | _ :: _, _, _ :: _, _, h, h' => ⟨h.1, IsAll.append h.2 h'⟩
theorem IsAll.dp {G : Gm} {H : Hp} : ∀ {vs : List V} {ds : List PyData}, IsAll G H vs (ds.map D.p) → DqAll G.K H vs ds
  | [], [], _ => .nil
  | _ :: _, _ :: _, h => .cons h.1 (IsAll.dp h.2)
  | [], _ :: _, h => h.elim
  | _ :: _, [], h => h.elim
theorem IsAll.of_dp {G : Gm} {H : Hp} : ∀ {ds : List PyData} {vs : List V}, DqAll G.K H vs ds → IsAll G H vs (ds.map D.p)
  | [], _, h => by cases h; trivial
  | _ :: _, _, h => by
    cases h with
    | cons h1 h2 => exact ⟨h1, IsAll.of_dp h2⟩

inductive Cell where
  /-- a list of plain data -/
  | lst (ds : List PyData)
  /-- a list of anything -/
  | lsd (ds : List D)
  /-- the law's source of draws: the list of its cells stands at c -/
  | law (c : Addr)
  /-- a dict -/
  | dic (kvs : List (Key × D))
  /-- an instance -/
  | ins (C dx : Addr) (fs : List (Str × D))
abbrev Mem := List (Addr × Cell)
def fp1 : Addr × Cell → List Addr
  | (a, .lst _) => [a]
  | (a, .lsd _) => [a]
  | (a, .law c) => [a, c]
  | (a, .dic _) => [a]
  | (a, .ins _ dx _) => [a, dx]
def fp (M : Mem) : List Addr := M.flatMap fp1
def LawOk (st ix : Int) (ns : List Int) : Prop := 0 ≤ st ∧ st < 2147483647 ∧ 0 ≤ ix ∧ ns.length ≤ 63
def CellOk (G : Gm) (H H1 : Hp) (a : Addr) : Cell → Prop
  | .lst ds => ∃ vs, H1 a = some (.lst vs) ∧ DqAll G.K H vs ds
  | .lsd ds => ∃ vs, H1 a = some (.lst vs) ∧ IsAll G H vs ds
  | .law c => ∃ st ix ns, H1 a = some (.lst [.int st, .ref c, .int ix]) ∧ H1 c = some (.lst (ns.map V.int)) ∧ LawOk st ix ns
  | .dic kvs => ∃ kvs', H1 a = some (.dK kvs') ∧ Paired (fun (p : Key × V) (q : Key × D) => p.1 = q.1 ∧ Is G H p.2 q.2) kvs' kvs
  | .ins C dx fs => ∃ fs', H1 a = some (.ins C dx fs') ∧ H1 dx = some (.own a) ∧ Paired (fun (p : Str × V) (q : Str × D) => p.1 = q.1 ∧ Is G H p.2 q.2) fs' fs
theorem paired_imp {α β : Type} {R S : α → β → Prop} (h : ∀ a b, R a b → S a b) : ∀ {xs : List α} {ys : List β}, Paired R xs ys → Paired S xs ys
  | _, _, .nil => .nil
  | _, _, .cons r t => .cons (h _ _ r) (paired_imp h t)
theorem CellOk.mono {G : Gm} {H H' H1 H2 : Hp} {a : Addr} {c : Cell} (h : CellOk G H H1 a c) (e : Ex H H') (k : ∀ b ∈ fp1 (a, c), ∀ o, H1 b = some o → H2 b = some o) : CellOk G H' H2 a c := by
  cases c with
  | lst ds =>
    obtain ⟨vs, h1, h2⟩ := h
    exact ⟨vs, k a (by simp [fp1]) _ h1, dpa_mono e _ _ h2⟩
  | lsd ds =>
    obtain ⟨vs, h1, h2⟩ := h
    exact ⟨vs, k a (by simp [fp1]) _ h1, h2.mono e⟩
  | law c =>
    obtain ⟨st, ix, ns, h1, h2, h3⟩ := h
    exact ⟨st, ix, ns, k a (by simp [fp1]) _ h1, k c (by simp [fp1]) _ h2, h3⟩
  | dic kvs =>
    obtain ⟨kvs', h1, h2⟩ := h
    exact ⟨kvs', k a (by simp [fp1]) _ h1, paired_imp (fun _ _ r => ⟨r.1, r.2.mono e⟩) h2⟩
  | ins C dx fs =>
    obtain ⟨fs', h1, h2, h3⟩ := h
    exact ⟨fs', k a (by simp [fp1]) _ h1, k dx (by simp [fp1]) _ h2, paired_imp (fun _ _ r => ⟨r.1, r.2.mono e⟩) h3⟩
theorem CellOk.there {G : Gm} {H H1 : Hp} {a : Addr} {c : Cell} (h : CellOk G H H1 a c) : ∀ b ∈ fp1 (a, c), ∃ o, H1 b = some o := by
  intro b hb
  cases c with
  | lst ds =>
    obtain ⟨vs, h1, h2⟩ := h
    simp [fp1] at hb; subst hb; exact ⟨_, h1⟩
  | lsd ds =>
    obtain ⟨vs, h1, h2⟩ := h
    simp [fp1] at hb; subst hb; exact ⟨_, h1⟩
  | law c =>
    obtain ⟨st, ix, ns, h1, h2, h3⟩ := h
    simp [fp1] at hb
    rcases hb with rfl | rfl
    · exact ⟨_, h1⟩
    · exact ⟨_, h2⟩
  | dic kvs =>
    obtain ⟨kvs', h1, h2⟩ := h
    simp [fp1] at hb; subst hb; exact ⟨_, h1⟩
  | ins C dx fs =>
    obtain ⟨fs', h1, h2, h3⟩ := h
    simp [fp1] at hb
    rcases hb with rfl | rfl
    · exact ⟨_, h1⟩
    · exact ⟨_, h2⟩
theorem self_fp1 (a : Addr) (c : Cell) : a ∈ fp1 (a, c) := by cases c <;> simp [fp1]

structure Ok (G : Gm) (H H1 : Hp) (M : Mem) : Prop where
  ex : Ex H H1
  cells : ∀ a c, (a, c) ∈ M → CellOk G H H1 a c
  nd : (fp M).Nodup
  out : ∀ b ∈ fp M, H b = none
theorem mem_fp {M : Mem} {b : Addr} : b ∈ fp M ↔ ∃ p ∈ M, b ∈ fp1 p := by unfold fp; rw [List.mem_flatMap]
theorem Ok.there {G : Gm} {H H1 : Hp} {M : Mem} (k : Ok G H H1 M) {b : Addr} (hb : b ∈ fp M) : ∃ o, H1 b = some o := by
  obtain ⟨⟨a, c⟩, h1, h2⟩ := mem_fp.mp hb
  exact (k.cells a c h1).there b h2
theorem Ok.fresh {G : Gm} {H H1 : Hp} {M : Mem} (k : Ok G H H1 M) {b : Addr} (hb : H1 b = none) : b ∉ fp M := fun h => by
  obtain ⟨o, e⟩ := k.there h
  rw [hb] at e; cases e
theorem Ok.freshH {G : Gm} {H H1 : Hp} {M : Mem} (k : Ok G H H1 M) {b : Addr} (hb : H1 b = none) : H b = none := Evl.fresh_back k.ex hb

structure Bs where
  H : Hp
  H1 : Hp
  M : Mem
structure Tr (G : Gm) (B : Bs) (H H1 : Hp) (M : Mem) : Prop where
  ok : Ok G H H1 M
  ex : Ex B.H H
  keep : ∀ b o, B.H1 b = some o → b ∉ fp B.M → H1 b = some o
  old : ∀ b, B.H1 b ≠ none → b ∉ fp B.M → H b = B.H b
  fpM : ∀ b ∈ fp M, b ∈ fp B.M ∨ B.H1 b = none
theorem Tr.refl {G : Gm} {H H1 : Hp} {M : Mem} (k : Ok G H H1 M) : Tr G ⟨H, H1, M⟩ H H1 M := ⟨k, Evl.Ex.refl H, fun _ _ h _ => h, fun _ _ _ => rfl, fun _ h => .inl h⟩
theorem Tr.trans {G : Gm} {B : Bs} {H H1 H' H2 : Hp} {M M' : Mem} (t : Tr G B H H1 M) (u : Tr G ⟨H, H1, M⟩ H' H2 M') : Tr G B H' H2 M' := by
  have hn : ∀ b, B.H1 b ≠ none → b ∉ fp B.M → b ∉ fp M := fun b hb hm h => (t.fpM b h).elim hm hb
  refine ⟨u.ok, t.ex.trans u.ex, fun b o h hm => ?_, fun b h hm => ?_, fun b h => ?_⟩
  · exact u.keep b o (t.keep b o h hm) (hn b (by rw [h]; simp) hm)
  · have h1 : H1 b ≠ none := by
      cases e : B.H1 b with
      | none => exact absurd e h
      | some o => rw [t.keep b o e hm]; simp
    exact (u.old b h1 (hn b h hm)).trans (t.old b h hm)
  · rcases u.fpM b h with h | h
    · exact t.fpM b h
    · by_cases hm : b ∈ fp B.M
      · exact .inl hm
      · refine .inr ?_
        have h : H1 b = none := h
        cases e : B.H1 b with
        | none => rfl
        | some o =>
          rw [t.keep b o e hm] at h
          cases h
theorem Ok.ne {G : Gm} {H H1 : Hp} {M : Mem} {p : Addr} (k : Ok G H H1 M) (hp : H1 p = none) {a : Addr} {o : HO} (h : H1 a = some o) : a ≠ p := ne_of_none h hp
theorem Ok.new {G : Gm} {H H1 : Hp} {M : Mem} {p : Addr} {o : HO} (k : Ok G H H1 M) (hp : H1 p = none) : Tr G ⟨H, H1, M⟩ (upd H p o) (upd H1 p o) M := by
  have hH : H p = none := k.freshH hp
  have kp : ∀ b u, H1 b = some u → upd H1 p o b = some u := fun b u h => by rw [upd_ne (ne_of_none h hp)]; exact h
  refine ⟨⟨fun b u h => ?_, fun a c h => (k.cells a c h).mono (Evl.Ex.new hH) fun b _ u hu => kp b u hu, k.nd, fun b hb => ?_⟩, Evl.Ex.new hH, fun b u h _ => kp b u h, fun b h hm => ?_, fun b h => .inl h⟩
  · by_cases e : b = p
    · subst e
      rw [upd_same] at h ⊢
      exact h
    · rw [upd_ne e] at h ⊢
      exact k.ex b u h
  · have hne : b ≠ p := by rintro rfl; exact k.fresh hp hb
    rw [upd_ne hne]
    exact k.out b hb
  · have : b ≠ p := fun e => h (by subst e; exact hp)
    rw [upd_ne this]
theorem Ok.newOwn {G : Gm} {H H1 : Hp} {M : Mem} {p : Addr} {o : HO} {c : Cell} (k : Ok G H H1 M) (hp : H1 p = none) (hf : fp1 (p, c) = [p]) (hc : CellOk G H (upd H1 p o) p c) : Tr G ⟨H, H1, M⟩ H (upd H1 p o) ((p, c) :: M) := by
  have hH : H p = none := k.freshH hp
  have kp : ∀ b u, H1 b = some u → upd H1 p o b = some u := fun b u h => by rw [upd_ne (ne_of_none h hp)]; exact h
  have ef : fp ((p, c) :: M) = p :: fp M := by
    unfold fp
    rw [List.flatMap_cons, hf]; rfl
  refine ⟨⟨fun b u h => kp b u (k.ex b u h), fun a d h => ?_, ?_, fun b hb => ?_⟩, Evl.Ex.refl H, fun b u h _ => kp b u h, fun b h hm => rfl, fun b h => ?_⟩
  · rcases List.mem_cons.mp h with e | h
    · cases e; exact hc
    · exact (k.cells a d h).mono (Evl.Ex.refl H) fun b _ u hu => kp b u hu
  · rw [ef]
    exact List.nodup_cons.mpr ⟨k.fresh hp, k.nd⟩
  · rw [ef] at hb
    rcases List.mem_cons.mp hb with e | hb
    · subst e; exact hH
    · exact k.out b hb
  · rw [ef] at h
    rcases List.mem_cons.mp h with e | h
    · subst e; exact .inr hp
    · exact .inl h

theorem fp_set : ∀ {M : Mem} {i : Nat} {a : Addr} {c c' : Cell}, M[i]? = some (a, c) → fp1 (a, c') = fp1 (a, c) → fp (M.set i (a, c')) = fp M
  | [], _, _, _, _, h, _ => by simp at h
  | x :: M, 0, a, c, c', h, e => by
    simp at h; subst h
    show fp1 (a, c') ++ fp M = fp1 (a, c) ++ fp M
    rw [e]
  | x :: M, i + 1, a, c, c', h, e => by
    show fp1 x ++ fp (M.set i (a, c')) = fp1 x ++ fp M
    rw [fp_set (by simpa using h) e]
theorem fp_apart : ∀ {M : Mem} {i j : Nat} {p q : Addr × Cell} {b : Addr}, (fp M).Nodup → M[i]? = some p → M[j]? = some q → b ∈ fp1 p → b ∈ fp1 q → i = j
  | [], _, _, _, _, _, _, h, _, _, _ => by simp at h
  | x :: M, 0, 0, _, _, _, _, _, _, _, _ => rfl
  | x :: M, 0, j + 1, p, q, b, nd, h1, h2, b1, b2 => by
    simp at h1; subst h1
    have nd : (fp1 x ++ fp M).Nodup := nd
    have := (List.nodup_append.mp nd).2.2 b b1 b (mem_fp.mpr ⟨q, List.mem_of_getElem? (by simpa using h2), b2⟩)
    exact absurd rfl this
  | x :: M, i + 1, 0, p, q, b, nd, h1, h2, b1, b2 => by
    simp at h2; subst h2
    have nd : (fp1 x ++ fp M).Nodup := nd
    have := (List.nodup_append.mp nd).2.2 b b2 b (mem_fp.mpr ⟨p, List.mem_of_getElem? (by simpa using h1), b1⟩)
    exact absurd rfl this
  | x :: M, i + 1, j + 1, p, q, b, nd, h1, h2, b1, b2 => by
    have nd : (fp1 x ++ fp M).Nodup := nd
    exact congrArg (· + 1) (fp_apart (i := i) (j := j) (List.nodup_append.mp nd).2.1 (by simpa using h1) (by simpa using h2) b1 b2)
theorem Ok.put {G : Gm} {H H1 H2 : Hp} {M : Mem} {i : Nat} {a : Addr} {c c' : Cell} (k : Ok G H H1 M) (hi : M[i]? = some (a, c)) (hf : fp1 (a, c') = fp1 (a, c)) (hk : ∀ b o, b ∉ fp1 (a, c) → H1 b = some o → H2 b = some o)
    (hc : CellOk G H H2 a c') : Tr G ⟨H, H1, M⟩ H H2 (M.set i (a, c')) := by
  have ef : fp (M.set i (a, c')) = fp M := fp_set hi hf
  have hm : ∀ b ∈ fp1 (a, c), b ∈ fp M := fun b hb => mem_fp.mpr ⟨_, List.mem_of_getElem? hi, hb⟩
  refine ⟨⟨fun b u h => ?_, fun x d h => ?_, ?_, fun b hb => ?_⟩, Evl.Ex.refl H, fun b u h hn => hk b u (fun z => hn (hm b z)) h, fun _ _ _ => rfl, fun b h => ?_⟩
  · refine hk b u (fun z => ?_) (k.ex b u h)
    rw [k.out b (hm b z)] at h; cases h
  · obtain ⟨j, hj⟩ := List.getElem?_of_mem h
    by_cases e : j = i
    · subst e
      rw [List.getElem?_set_self (by
        have := (List.getElem?_eq_some_iff.mp hi).1; exact this)] at hj
      cases hj
      exact hc
    · rw [List.getElem?_set_ne (fun z => e z.symm)] at hj
      refine (k.cells x d (List.mem_of_getElem? hj)).mono (Evl.Ex.refl H) fun b hb u hu => hk b u (fun z => ?_) hu
      exact e (fp_apart k.nd hj hi hb z)
  · rw [ef]; exact k.nd
  · rw [ef] at hb; exact k.out b hb
  · rw [ef] at h; exact .inl h
theorem Ok.freeze {G : Gm} {H H1 : Hp} {M : Mem} {i : Nat} {a : Addr} {ds : List PyData} (k : Ok G H H1 M) (hi : M[i]? = some (a, .lst ds)) : ∃ vs, Tr G ⟨H, H1, M⟩ (upd H a (.lst vs)) H1 (M.eraseIdx i) ∧ Dq G.K (upd H a (.lst vs)) (.ref a) (.list ds) := by
  obtain ⟨vs, h1, h2⟩ := k.cells _ _ (List.mem_of_getElem? hi)
  have ha : a ∈ fp M := mem_fp.mpr ⟨_, List.mem_of_getElem? hi, self_fp1 _ _⟩
  have hn : H a = none := k.out a ha
  have sub : ∀ b ∈ fp (M.eraseIdx i), b ∈ fp M := fun b hb => by
    obtain ⟨p, h1, h2⟩ := mem_fp.mp hb
    exact mem_fp.mpr ⟨p, List.mem_of_mem_eraseIdx h1, h2⟩
  have nd : ∀ {M : Mem} {i : Nat} {c : Cell}, M[i]? = some (a, c) → (fp M).Nodup → (fp (M.eraseIdx i)).Nodup ∧ a ∉ fp (M.eraseIdx i) := by
    intro M
    induction M with
    | nil => intro i c h; simp at h
    | cons x M ih =>
      intro i c h hd
      have hd : (fp1 x ++ fp M).Nodup := hd
      have h3 := List.nodup_append.mp hd
      cases i with
      | zero =>
        simp at h; subst h
        exact ⟨h3.2.1, fun z => h3.2.2 a (self_fp1 _ _) a z rfl⟩
      | succ i =>
        have h : M[i]? = some (a, c) := by simpa using h
        obtain ⟨n1, n2⟩ := ih h h3.2.1
        have hs : ∀ b ∈ fp (M.eraseIdx i), b ∈ fp M := fun b hb => by
          obtain ⟨p, h1, h2⟩ := mem_fp.mp hb
          exact mem_fp.mpr ⟨p, List.mem_of_mem_eraseIdx h1, h2⟩
        refine ⟨?_, ?_⟩
        · show (fp1 x ++ fp (M.eraseIdx i)).Nodup
          exact List.nodup_append.mpr ⟨h3.1, n1, fun u hu w hw => h3.2.2 u hu w (hs w hw)⟩
        · show a ∉ fp1 x ++ fp (M.eraseIdx i)
          rw [List.mem_append]
          rintro (z | z)
          · exact h3.2.2 a z a (mem_fp.mpr ⟨_, List.mem_of_getElem? h, self_fp1 _ _⟩) rfl
          · exact n2 z
  obtain ⟨n1, n2⟩ := nd hi k.nd
  refine ⟨vs, ⟨⟨fun b u h => ?_, fun x d h => (k.cells x d (List.mem_of_mem_eraseIdx h)).mono (Evl.Ex.new hn) fun _ _ _ hu => hu, n1, fun b hb => ?_⟩, Evl.Ex.new hn, fun _ _ h _ => h, fun b h hm => ?_, fun b h => .inl (sub b h)⟩, .lst upd_same (dpa_mono (Evl.Ex.new hn) _ _ h2)⟩
  · by_cases e : b = a
    · subst e
      rw [upd_same] at h
      cases h
      exact h1
    · rw [upd_ne e] at h
      exact k.ex b u h
  · have hne : b ≠ a := by rintro rfl; exact n2 hb
    rw [upd_ne hne]
    exact k.out b (sub b hb)
  · have hne : b ≠ a := by rintro rfl; exact hm ha
    rw [upd_ne hne]

theorem Ok.freezeScr {G : Gm} {H H1 : Hp} {M : Mem} {i : Nat} {a dx : Addr} {st : PyData} (k : Ok G H H1 M) (hi : M[i]? = some (a, .ins G.C dx [("readings", .p st)])) : ∃ H', Tr G ⟨H, H1, M⟩ H' H1 (M.eraseIdx i) ∧ Is G H' (.ref a) (.scr st) := by
  obtain ⟨fs, h1, h1', h2⟩ := k.cells _ _ (List.mem_of_getElem? hi)
  obtain ⟨r, rfl, hr⟩ : ∃ r, fs = [((("readings" : Str)), r)] ∧ Dq G.K H r st := by
    cases h2 with
    | cons q t =>
      cases t
      rename_i x
      obtain ⟨x1, x2⟩ := x
      obtain ⟨q1, q2⟩ := q
      simp only at q1
      subst q1
      exact ⟨x2, rfl, q2⟩
  have ha : ∀ b ∈ fp1 (a, .ins G.C dx [("readings", .p st)]), b ∈ fp M := fun b hb => mem_fp.mpr ⟨_, List.mem_of_getElem? hi, hb⟩
  have hn : H a = none := k.out a (ha a (by simp [fp1]))
  have hdx : H dx = none := k.out dx (ha dx (by simp [fp1]))
  have sub : ∀ b ∈ fp (M.eraseIdx i), b ∈ fp M := fun b hb => by
    obtain ⟨p, h1, h2⟩ := mem_fp.mp hb
    exact mem_fp.mpr ⟨p, List.mem_of_mem_eraseIdx h1, h2⟩
  have nd : ∀ {M : Mem} {i : Nat} {c : Cell}, M[i]? = some (a, c) → (fp M).Nodup → (fp (M.eraseIdx i)).Nodup ∧ ∀ b ∈ fp1 (a, c), b ∉ fp (M.eraseIdx i) := by
    intro M
    induction M with
    | nil => intro i c h; simp at h
    | cons x M ih =>
      intro i c h hd
      have hd : (fp1 x ++ fp M).Nodup := hd
      have h3 := List.nodup_append.mp hd
      cases i with
      | zero =>
        simp at h; subst h
        exact ⟨h3.2.1, fun b hb z => h3.2.2 b hb b z rfl⟩
      | succ i =>
        have h : M[i]? = some (a, c) := by simpa using h
        obtain ⟨n1, n2⟩ := ih h h3.2.1
        have hs : ∀ b ∈ fp (M.eraseIdx i), b ∈ fp M := fun b hb => by
          obtain ⟨p, h1, h2⟩ := mem_fp.mp hb
          exact mem_fp.mpr ⟨p, List.mem_of_mem_eraseIdx h1, h2⟩
        refine ⟨?_, fun b hb => ?_⟩
        · show (fp1 x ++ fp (M.eraseIdx i)).Nodup
          exact List.nodup_append.mpr ⟨h3.1, n1, fun u hu w hw => h3.2.2 u hu w (hs w hw)⟩
        · show b ∉ fp1 x ++ fp (M.eraseIdx i)
          rw [List.mem_append]
          rintro (z | z)
          · exact h3.2.2 b z b (mem_fp.mpr ⟨_, List.mem_of_getElem? h, hb⟩) rfl
          · exact n2 b hb z
  obtain ⟨n1, n2⟩ := nd hi k.nd
  have e1 : Ex H (upd H a (.ins G.C dx [("readings", r)])) := Evl.Ex.new hn
  refine ⟨upd H a (.ins G.C dx [("readings", r)]), ⟨⟨fun b u h => ?_, fun x d h => (k.cells x d (List.mem_of_mem_eraseIdx h)).mono e1 fun _ _ _ hu => hu, n1, fun b hb => ?_⟩, e1, fun _ _ h _ => h, fun b h hm => ?_, fun b h => .inl (sub b h)⟩, ⟨a, dx, r, rfl, upd_same, dp_mono e1 _ _ hr⟩⟩
  · by_cases e : b = a
    · subst e
      rw [upd_same] at h
      cases h
      exact h1
    · rw [upd_ne e] at h
      exact k.ex b u h
  · have hne : b ≠ a := by rintro rfl; exact n2 b (by simp [fp1]) hb
    rw [upd_ne hne]
    exact k.out b (sub b hb)
  · have hne : b ≠ a := by rintro rfl; exact hm (ha b (by simp [fp1]))
    rw [upd_ne hne]

theorem perm_mem {M : Mem} {p : Addr × Cell} (h : p ∈ M) : ∃ M0, M.Perm (p :: M0) := by
  obtain ⟨s, t, rfl⟩ := List.append_of_mem h
  exact ⟨s ++ t, List.perm_middle⟩
theorem fp_perm {M M' : Mem} (h : M.Perm M') : (fp M).Perm (fp M') := h.flatMap_right _
theorem Ok.perm {G : Gm} {H H1 : Hp} {M M' : Mem} (k : Ok G H H1 M) (h : M.Perm M') : Ok G H H1 M' :=
  ⟨k.ex, fun a c hc => k.cells a c (h.mem_iff.mpr hc), (fp_perm h).nodup_iff.mp k.nd, fun b hb => k.out b ((fp_perm h).mem_iff.mpr hb)⟩
abbrev lawC (a c : Addr) (st ix : Int) (ns : List Int) (M0 : Mem) : Mem := (a, .lsd [dI st, .own c, dI ix]) :: (c, .lst (ns.map PyData.int)) :: M0
theorem fp_lawC {a c : Addr} {st ix : Int} {ns : List Int} {M0 : Mem} : fp (lawC a c st ix ns M0) = fp ((a, .law c) :: M0) := rfl
theorem Ok.opn {G : Gm} {H H1 : Hp} {M M0 : Mem} {a c : Addr} (k : Ok G H H1 M) (h : M.Perm ((a, .law c) :: M0)) : ∃ st ix ns, LawOk st ix ns ∧ Ok G H H1 (lawC a c st ix ns M0) := by
  have k' := k.perm h
  obtain ⟨st, ix, ns, h1, h2, h3⟩ := k'.cells a _ List.mem_cons_self
  refine ⟨st, ix, ns, h3, k'.ex, fun x d hd => ?_, k'.nd, k'.out⟩
  rcases List.mem_cons.mp hd with e | hd
  · cases e
    exact ⟨_, h1, Dq.int _, rfl, Dq.int _, trivial⟩
  · rcases List.mem_cons.mp hd with e | hd
    · cases e
      exact ⟨_, h2, dpa_ints⟩
    · exact k'.cells x d (List.mem_cons_of_mem _ hd)
theorem Ok.shut {G : Gm} {H H1 : Hp} {M M0 : Mem} {a c : Addr} {st ix : Int} {ns : List Int} (k : Ok G H H1 (lawC a c st ix ns M0)) (l : LawOk st ix ns) (h : M.Perm ((a, .law c) :: M0)) : Ok G H H1 M := by
  refine Ok.perm (M := (a, .law c) :: M0) ⟨k.ex, fun x d hd => ?_, k.nd, k.out⟩ h.symm
  rcases List.mem_cons.mp hd with e | hd
  · cases e
    obtain ⟨vs, h1, h2⟩ := k.cells a _ List.mem_cons_self
    obtain ⟨ws, h3, h4⟩ := k.cells c _ (List.mem_cons_of_mem _ List.mem_cons_self)
    have e1 := dpa_ints_inv h4
    subst e1
    match vs, h2 with
    | [v1, v2, v3], ⟨i1, i2, i3, _⟩ =>
      have e1 := i1.int
      have e2 : v2 = .ref c := i2
      have e3 := i3.int
      subst e1 e2 e3
      exact ⟨st, ix, ns, h1, h3, l⟩
  · exact k.cells x d (List.mem_cons_of_mem _ (List.mem_cons_of_mem _ hd))
end CR

namespace CR
open PySem PySem.Spec PyProof.Rows L2
open Evl (Ex)

abbrev Gx := List (Option D)
structure Slots (G : Gm) (H : Hp) (σ : L2.St) (Γ : Gx) : Prop where
  len : σ.length = Γ.length
  at_ : ∀ (i : Nat) (d : D), Γ[i]? = some (some d) → ∃ v, σ[i]? = some (some v) ∧ Is G H v d
theorem Slots.mono {G : Gm} {H H' : Hp} {σ : L2.St} {Γ : Gx} (h : Slots G H σ Γ) (e : Ex H H') : Slots G H' σ Γ :=
  ⟨h.len, fun i d hd => by
    obtain ⟨v, a, b⟩ := h.at_ i d hd
    exact ⟨v, a, b.mono e⟩⟩
theorem Slots.set {G : Gm} {H : Hp} {σ : L2.St} {Γ : Gx} {v : V} {d : D} (h : Slots G H σ Γ) (i : Nat) (hv : Is G H v d) : Slots G H (σ.set i (some v)) (Γ.set i (some d)) := by
  refine ⟨by simp [h.len], fun j x hx => ?_⟩
  by_cases e : i = j
  · subst e
    by_cases hl : i < Γ.length
    · rw [List.getElem?_set_self hl] at hx
      cases hx
      exact ⟨v, List.getElem?_set_self (by rw [h.len]; exact hl), hv⟩
    · rw [List.getElem?_eq_none (by simpa using hl)] at hx
      cases hx
  · rw [List.getElem?_set_ne e] at hx ⊢
    exact h.at_ j x hx
def wipeE (Γ : Gx) : List Nat → Gx
  | [] => Γ
  | v :: vs => (wipeE Γ vs).set v none
theorem Slots.wipe {G : Gm} {H : Hp} {σ : L2.St} {Γ : Gx} (h : Slots G H σ Γ) : ∀ vs : List Nat, Slots G H (L2.wipe σ vs) (wipeE Γ vs)
  | [] => h
  | v :: vs => by
    have ih := Slots.wipe h vs
    refine ⟨by simp [L2.wipe, wipeE, ih.len], fun j x hx => ?_⟩
    unfold wipeE at hx
    unfold L2.wipe
    by_cases e : v = j
    · subst e
      by_cases hl : v < (wipeE Γ vs).length
      · rw [List.getElem?_set_self hl] at hx; cases hx
      · rw [List.getElem?_eq_none (by simpa using hl)] at hx; cases hx
    · rw [List.getElem?_set_ne e] at hx ⊢
      exact ih.at_ j x hx
theorem Slots.start {G : Gm} {H : Hp} {N : List Str} {vs : List V} {ds : List D} (h : IsAll G H vs ds) : Slots G H (L2.start N vs) (ds.map some ++ List.replicate (N.length - ds.length) none) := by
  have hl := h.len
  unfold L2.start
  refine ⟨by simp [hl], fun i d hd => ?_⟩
  by_cases hi : i < ds.length
  · rw [List.getElem?_append_left (by simpa using hi), List.getElem?_map] at hd
    rw [List.getElem?_append_left (by simpa [hl] using hi), List.getElem?_map]
    cases e : ds[i]? with
    | none => rw [e] at hd; cases hd
    | some x =>
      rw [e] at hd; cases hd
      obtain ⟨v, h1, h2⟩ := h.get e
      exact ⟨v, by rw [h1]; rfl, h2⟩
  · rw [List.getElem?_append_right (by simpa using hi), List.getElem?_replicate] at hd
    split at hd <;> cases hd

def ExAt (G : Gm) (H H1 : Hp) (cls : Value) (d : Option Addr) (C : Addr) (fs : List (Str × PyData)) : Prop :=
  cls = .ref C ∧ ((fs = [] ∧ d = none) ∨ ∃ dd fs', d = some dd ∧ H1 dd = some (.xd fs') ∧ Paired (fun (p : Str × V) (q : Str × PyData) => p.1 = q.1 ∧ Dq G.K H p.2 q.2) fs' fs)
structure Md where
  P : Program
  w : World
  K : PySem.W.Frag
  mg : Str → Option Value
  base : Heap
  C : Addr
abbrev Md.G (m : Md) : Gm := ⟨m.K, m.C⟩
abbrev Rx := Addr → List (Str × PyData) → Gx → Mem → Prop
structure Cd where
  m : Md
  X : Cx
  B : Bs
  W : WX
  R : Rx
  lvl : Bool
abbrev Cd.G (c : Cd) : Gm := c.m.G
structure Cd.Ok (c : Cd) (N : List Str) (sc : Scope) (k : Nat) : Prop where
  prog : c.X.prog = c.m.P
  ew : c.X.w = c.m.w
  K : c.X.K = c.m.K
  mg : c.X.mg = c.m.mg
  base : c.X.base = c.m.base
  hN : c.X.N = N
  nd : N.Nodup
  esc : c.X.env.scope = sc
  calm : c.X.calm = true
  fn : c.lvl = true → ∀ x, c.X.fn x = true
  room : Room k c.X.A
  po : PassesOwn (model c.X.prog c.X.w) c.X.A c.X.env c.X.xe
  tk : Takes c.X c.W
  hR : ∀ C fs Γ M σ H H1 cls d, c.R C fs Γ M → Tr c.G c.B H H1 M → Slots c.G H σ Γ → ExAt c.G H H1 cls d C fs → c.W cls d σ H1

def eSem (X : Cx) (e : Expr) : TE := fun σ H Q => ∀ (pins : List (Addr × Obj)) (s : Shared), Inv X pins σ H s → wpAny (model X.prog X.w) X.A (eval e X.env) (EP X pins σ Q) X.xe s
theorem pe_sem {X : Cx} {e : Expr} : PE X e (eSem X e) := ⟨fun pins s _ _ _ I h => h pins s I⟩
theorem pe_to {X : Cx} {e : Expr} {t : TE} (h : PE X e t) {σ : L2.St} {H : Hp} {Q : VK} (q : t σ H Q) : eSem X e σ H Q := fun pins s I => h.run pins s σ H Q I q
def tSem (X : Cx) (e : Expr) : TT := fun σ H Q => ∀ (pins : List (Addr × Obj)) (s : Shared), Inv X pins σ H s → wpAny (model X.prog X.w) X.A (isTrue e X.env (eval e X.env)) (TP X pins σ Q) X.xe s
theorem pt_sem {X : Cx} {e : Expr} : PT X e (tSem X e) := ⟨fun pins s _ _ _ I h => h pins s I⟩
theorem pt_to {X : Cx} {e : Expr} {t : TT} (h : PT X e t) {σ : L2.St} {H : Hp} {Q : Bool → Hp → Prop} (q : t σ H Q) : tSem X e σ H Q := fun pins s I => h.run pins s σ H Q I q
def wSem (X : Cx) (e : Expr) : TT := fun σ H Q => ∀ (whole : Sem Value) (pins : List (Addr × Obj)) (s : Shared), Inv X pins σ H s → wpAny (model X.prog X.w) X.A (isTrue e X.env whole) (TP X pins σ Q) X.xe s
theorem pw_sem {X : Cx} {e : Expr} : PW X e (wSem X e) := ⟨fun whole pins s _ _ _ I h => h whole pins s I⟩
theorem pw_to {X : Cx} {e : Expr} {t : TT} (h : PW X e t) {σ : L2.St} {H : Hp} {Q : Bool → Hp → Prop} (q : t σ H Q) : wSem X e σ H Q := fun whole pins s I => h.run whole pins s σ H Q I q
def aSem (X : Cx) (es : List Expr) : TA := fun σ H Q => ∀ (pos : Pos) (pins : List (Addr × Obj)) (s : Shared), Inv X pins σ H s → wpAny (model X.prog X.w) X.A (spliced (backTo pos (starEach es X.env))) (AP X pins σ Q) X.xe s
theorem pa_sem {X : Cx} {es : List Expr} : PA X es (aSem X es) := ⟨fun pos pins s _ _ _ I h => h pos pins s I⟩
theorem pa_to {X : Cx} {es : List Expr} {t : TA} (h : PA X es t) {σ : L2.St} {H : Hp} {Q : List V → Hp → Prop} (q : t σ H Q) : aSem X es σ H Q := fun pos pins s I => h.run pos pins s σ H Q I q
def sSem (X : Cx) (st : Stmt) : TS := fun D σ H => ∀ (pins : List (Addr × Obj)) (s : Shared), Inv X pins σ H s → wpAny (model X.prog X.w) X.A (exec st X.env) (SP X pins D) X.xe s
theorem ps_sem {X : Cx} {st : Stmt} : PS X st (sSem X st) := ⟨fun pins s _ _ _ I h => h pins s I⟩
theorem ps_to {X : Cx} {st : Stmt} {t : TS} (h : PS X st t) {σ : L2.St} {H : Hp} {D : Ends} (q : t D σ H) : sSem X st D σ H := fun pins s I => h.run pins s σ H D I q
def bSem (X : Cx) (st : List Stmt) : TS := fun D σ H => ∀ (pins : List (Addr × Obj)) (s : Shared), Inv X pins σ H s → wpAny (model X.prog X.w) X.A (execs st X.env) (SP X pins D) X.xe s
theorem pss_sem {X : Cx} {st : List Stmt} : PSs X st (bSem X st) := ⟨fun pins s _ _ _ I h => h pins s I⟩
theorem pss_to {X : Cx} {st : List Stmt} {t : TS} (h : PSs X st t) {σ : L2.St} {H : Hp} {D : Ends} (q : t D σ H) : bSem X st D σ H := fun pins s I => h.run pins s σ H D I q
def gSem (X : Cx) (tg : Expr) : TG := fun v σ H Q => ∀ (pins : List (Addr × Obj)) (s : Shared) (u : Value), Inv X pins σ H s → RelV v u → wpAny (model X.prog X.w) X.A (assign tg X.env u) (fun _ s' => ∃ σ' H', Inv X pins σ' H' s' ∧ Q σ' H') X.xe s
theorem pg_sem {X : Cx} {tg : Expr} : PG X tg (gSem X tg) := ⟨fun pins s _ _ _ u _ I r h => h pins s u I r⟩
theorem pg_to {X : Cx} {tg : Expr} {t : TG} (h : PG X tg t) {v : V} {σ : L2.St} {H : Hp} {Q : L2.St → Hp → Prop} (q : t v σ H Q) : gSem X tg v σ H Q := fun pins s u I r => h.run pins s σ H v u Q I r q

def Ep (c : Cd) (t : TE) (Γ : Gx) (M : Mem) (P : D → Mem → Prop) : Prop :=
  ∀ (σ : L2.St) (H H1 : Hp) (Q : VK), Tr c.G c.B H H1 M → Slots c.G H σ Γ → (∀ d M' v H' H2, P d M' → Tr c.G c.B H' H2 M' → Ex H H' → Is c.G H' v d → Q v H2) → t σ H1 Q
def Tp (c : Cd) (t : TT) (Γ : Gx) (M : Mem) (P : Bool → Mem → Prop) : Prop :=
  ∀ (σ : L2.St) (H H1 : Hp) (Q : Bool → Hp → Prop), Tr c.G c.B H H1 M → Slots c.G H σ Γ → (∀ b M' H' H2, P b M' → Tr c.G c.B H' H2 M' → Ex H H' → Q b H2) → t σ H1 Q
def Ap (c : Cd) (t : TA) (Γ : Gx) (M : Mem) (P : List D → Mem → Prop) : Prop :=
  ∀ (σ : L2.St) (H H1 : Hp) (Q : List V → Hp → Prop), Tr c.G c.B H H1 M → Slots c.G H σ Γ → (∀ ds M' vs H' H2, P ds M' → Tr c.G c.B H' H2 M' → Ex H H' → IsAll c.G H' vs ds → Q vs H2) → t σ H1 Q
structure De where
  nx : Gx → Mem → Prop
  rt : D → Mem → Prop
  bk : Gx → Mem → Prop := fun _ _ => False
  ct : Gx → Mem → Prop := fun _ _ => False
structure Rl (c : Cd) (H0 : Hp) (E : Ends) (De : De) : Prop where
  nx : ∀ Γ M σ H H1, De.nx Γ M → Tr c.G c.B H H1 M → Ex H0 H → Slots c.G H σ Γ → E.nx σ H1
  rt : ∀ d M v H H1, De.rt d M → Tr c.G c.B H H1 M → Ex H0 H → Is c.G H v d → E.rt v H1
  bk : ∀ Γ M σ H H1, De.bk Γ M → Tr c.G c.B H H1 M → Ex H0 H → Slots c.G H σ Γ → E.bk σ H1
  ct : ∀ Γ M σ H H1, De.ct Γ M → Tr c.G c.B H H1 M → Ex H0 H → Slots c.G H σ Γ → E.ct σ H1
theorem Rl.mono {c : Cd} {H0 H' : Hp} {E : Ends} {D : De} (r : Rl c H0 E D) (e : Ex H0 H') : Rl c H' E D :=
  ⟨fun Γ M σ H H1 p t x => r.nx Γ M σ H H1 p t (e.trans x), fun d M v H H1 p t x => r.rt d M v H H1 p t (e.trans x), fun Γ M σ H H1 p t x => r.bk Γ M σ H H1 p t (e.trans x), fun Γ M σ H H1 p t x => r.ct Γ M σ H H1 p t (e.trans x)⟩
def Sq (c : Cd) (t : TS) (Γ : Gx) (M : Mem) (D : De) : Prop :=
  ∀ (σ : L2.St) (H H1 : Hp) (E : Ends), Tr c.G c.B H H1 M → Slots c.G H σ Γ → Rl c H E D → t E σ H1
abbrev Ee (c : Cd) (Γ : Gx) (M : Mem) (e : Expr) (P : D → Mem → Prop) : Prop := Ep c (eSem c.X e) Γ M P
abbrev Et (c : Cd) (Γ : Gx) (M : Mem) (e : Expr) (P : Bool → Mem → Prop) : Prop := Tp c (tSem c.X e) Γ M P
abbrev Ew (c : Cd) (Γ : Gx) (M : Mem) (e : Expr) (P : Bool → Mem → Prop) : Prop := Tp c (wSem c.X e) Γ M P
abbrev Ea (c : Cd) (Γ : Gx) (M : Mem) (es : List Expr) (P : List D → Mem → Prop) : Prop := Ap c (aSem c.X es) Γ M P
abbrev Es (c : Cd) (Γ : Gx) (M : Mem) (st : Stmt) (D : De) : Prop := Sq c (sSem c.X st) Γ M D
abbrev Eb (c : Cd) (Γ : Gx) (M : Mem) (st : List Stmt) (D : De) : Prop := Sq c (bSem c.X st) Γ M D
def Eg (c : Cd) (Γ : Gx) (M : Mem) (tg : Expr) (d : D) (P : Gx → Mem → Prop) : Prop :=
  ∀ (σ : L2.St) (H H1 : Hp) (v : V) (Q : L2.St → Hp → Prop), Tr c.G c.B H H1 M → Slots c.G H σ Γ → Is c.G H v d → (∀ Γ' M' σ' H' H2, P Γ' M' → Tr c.G c.B H' H2 M' → Ex H H' → Slots c.G H' σ' Γ' → Q σ' H2) → gSem c.X tg v σ H1 Q
def O2 (c : Cd) (r : R2) (x y : D) (M : Mem) (P : D → Mem → Prop) : Prop :=
  ∀ (H H1 : Hp) (v u : V) (Q : VK), Tr c.G c.B H H1 M → Is c.G H v x → Is c.G H u y → (∀ d M' z H' H2, P d M' → Tr c.G c.B H' H2 M' → Ex H H' → Is c.G H' z d → Q z H2) → r v u H1 Q
def O1 (c : Cd) (r : V → Hp → VK → Prop) (x : D) (M : Mem) (P : D → Mem → Prop) : Prop :=
  ∀ (H H1 : Hp) (v : V) (Q : VK), Tr c.G c.B H H1 M → Is c.G H v x → (∀ d M' z H' H2, P d M' → Tr c.G c.B H' H2 M' → Ex H H' → Is c.G H' z d → Q z H2) → r v H1 Q
def OL (c : Cd) (r : List V → Hp → VK → Prop) (xs : List D) (M : Mem) (P : D → Mem → Prop) : Prop :=
  ∀ (H H1 : Hp) (vs : List V) (Q : VK), Tr c.G c.B H H1 M → IsAll c.G H vs xs → (∀ d M' z H' H2, P d M' → Tr c.G c.B H' H2 M' → Ex H H' → Is c.G H' z d → Q z H2) → r vs H1 Q
def OM (c : Cd) (r : V → List V → Hp → VK → Prop) (x : D) (xs : List D) (M : Mem) (P : D → Mem → Prop) : Prop :=
  ∀ (H H1 : Hp) (v : V) (vs : List V) (Q : VK), Tr c.G c.B H H1 M → Is c.G H v x → IsAll c.G H vs xs → (∀ d M' z H' H2, P d M' → Tr c.G c.B H' H2 M' → Ex H H' → Is c.G H' z d → Q z H2) → r v vs H1 Q

section
variable {c : Cd} {N : List Str} {sc : Scope} {k : Nat} {Γ : Gx} {M : Mem} {P : D → Mem → Prop} {T : Bool → Mem → Prop} {A : List D → Mem → Prop} {D' : De} {nx_ : Gx → Mem → Prop} {rt_ : D → Mem → Prop} {bk_ ct_ : Gx → Mem → Prop} {e a b : Expr} {es : List Expr} {pos : Pos}

theorem e_of {t : TE} (h : PE c.X e t) (w : Ep c t Γ M P) : Ee c Γ M e P := fun σ H H1 Q tr sl q => pe_to h (w σ H H1 Q tr sl q)
theorem t_of {t : TT} (h : PT c.X e t) (w : Tp c t Γ M T) : Et c Γ M e T := fun σ H H1 Q tr sl q => pt_to h (w σ H H1 Q tr sl q)
theorem w_of {t : TT} (h : PW c.X e t) (w : Tp c t Γ M T) : Ew c Γ M e T := fun σ H H1 Q tr sl q => pw_to h (w σ H H1 Q tr sl q)
theorem a_of {t : TA} (h : PA c.X es t) (w : Ap c t Γ M A) : Ea c Γ M es A := fun σ H H1 Q tr sl q => pa_to h (w σ H H1 Q tr sl q)
theorem s_of {st : Stmt} {t : TS} (h : PS c.X st t) (w : Sq c t Γ M D') : Es c Γ M st D' := fun σ H H1 E tr sl q => ps_to h (w σ H H1 E tr sl q)
theorem b_of {st : List Stmt} {t : TS} (h : PSs c.X st t) (w : Sq c t Γ M D') : Eb c Γ M st D' := fun σ H H1 E tr sl q => pss_to h (w σ H H1 E tr sl q)
theorem Ep.imp {t : TE} {P' : D → Mem → Prop} (h : Ep c t Γ M P) (i : ∀ d M', P d M' → P' d M') : Ep c t Γ M P' := fun σ H H1 Q tr sl q => h σ H H1 Q tr sl fun d M' v H' H2 p => q d M' v H' H2 (i d M' p)
theorem Tp.imp {t : TT} {T' : Bool → Mem → Prop} (h : Tp c t Γ M T) (i : ∀ d M', T d M' → T' d M') : Tp c t Γ M T' := fun σ H H1 Q tr sl q => h σ H H1 Q tr sl fun d M' H' H2 p => q d M' H' H2 (i d M' p)
theorem Ap.imp {t : TA} {A' : List D → Mem → Prop} (h : Ap c t Γ M A) (i : ∀ d M', A d M' → A' d M') : Ap c t Γ M A' := fun σ H H1 Q tr sl q => h σ H H1 Q tr sl fun d M' v H' H2 p => q d M' v H' H2 (i d M' p)

class At (N : List Str) (x : Str) (i : outParam Nat) : Prop where
  at_ : N[i]? = some x
instance (priority := high) At.head {N : List Str} {x : Str} : At (x :: N) x 0 := ⟨rfl⟩
instance (priority := low) At.tail {N : List Str} {x y : Str} {i : Nat} [h : At N x i] : At (y :: N) x (i + 1) := ⟨by simpa using h.at_⟩
theorem vis_of {x : Str} (o : c.Ok N sc k) (h : Vis sc x) : Vis c.X.env.scope x := by rw [o.esc]; exact h
theorem gl_of {x : Str} (o : c.Ok N sc k) (h : sc.names.lookup x = some .globalImplicit) : Gl c.X x := by
  show c.X.env.scope.names.lookup x = _
  rw [o.esc]; exact h
theorem e_var {x : Str} {i : Nat} {d : D} [hi : At N x i] (o : c.Ok N sc k) (hv : Vis sc x) (hd : Γ[i]? = some (some d)) (hx : (x == ("__debug__" : Str)) = false) (hy : (x == ("__classdict__" : Str)) = false) (p : P d M) : Ee c Γ M (.Name x pos) P :=
  e_of (pe_var (i := i) (by rw [o.hN]; exact hi.at_) (vis_of o hv) hx hy) fun σ H H1 Q tr sl q => by
    obtain ⟨v, h1, h2⟩ := sl.at_ i d hd
    exact ⟨v, h1, q d M v H H1 p tr (Evl.Ex.refl H) h2⟩
theorem e_int {i j} (p : P (dI i) M) : Ee c Γ M (.Constant (.int i) j pos) P := e_of pe_int fun σ H H1 Q tr sl q => q _ _ _ H H1 p tr (Evl.Ex.refl H) (Dq.int i)
theorem e_bl {i j} (p : P (dB i) M) : Ee c Γ M (.Constant (.bool i) j pos) P := e_of pe_bl fun σ H H1 Q tr sl q => q _ _ _ H H1 p tr (Evl.Ex.refl H) (Dq.bl i)
theorem e_non {j} (p : P dN M) : Ee c Γ M (.Constant .none j pos) P := e_of pe_non fun σ H H1 Q tr sl q => q _ _ _ H H1 p tr (Evl.Ex.refl H) Dq.non
theorem e_str {i j} (p : P (dS i) M) : Ee c Γ M (.Constant (.str i) j pos) P := e_of pe_str fun σ H H1 Q tr sl q => q _ _ _ H H1 p tr (Evl.Ex.refl H) (Dq.str i)
def GlD (m : Md) (x : Str) (d : D) : Prop := ∃ v u, m.mg x = some u ∧ RelV v u ∧ ∀ H, Is m.G H v d
theorem e_glob {x : Str} {d : D} (g : GlD c.m x d) (o : c.Ok N sc k) (hg : sc.names.lookup x = some .globalImplicit) (hx : (x == ("__debug__" : Str)) = false) (p : P d M) : Ee c Γ M (.Name x pos) P := by
  obtain ⟨v, u, h1, h2, h3⟩ := g
  exact e_of (pe_glob (gl_of o hg) (by rw [o.mg]; exact h1) h2 hx) fun σ H H1 Q tr sl q => q _ _ _ H H1 p tr (Evl.Ex.refl H) (h3 H)

theorem ep_op {ta tb : TE} {r : R2} (h : Ep c ta Γ M fun x M1 => Ep c tb Γ M1 fun y M2 => O2 c r x y M2 P) : Ep c (tOp r ta tb) Γ M P := fun σ H H1 Q tr sl q => by
  refine h σ H H1 _ tr sl fun x M1 v H' H2 p tr1 e1 i1 => ?_
  refine p σ H' H2 _ tr1 (sl.mono e1) fun y M2 u H'' H3 p2 tr2 e2 i2 => ?_
  exact p2 H'' H3 v u Q tr2 (i1.mono e2) i2 fun d M' z H4 H5 p4 tr4 e4 i4 => q d M' z H4 H5 p4 tr4 ((e1.trans e2).trans e4) i4
theorem e_op {op : Operator} {r : R2} (ho : OpR c.X (binaryOp op) r) (h : Ee c Γ M a fun x M1 => Ee c Γ M1 b fun y M2 => O2 c r x y M2 P) : Ee c Γ M (.BinOp a op b pos) P :=
  e_of (pe_op ho pe_sem pe_sem) (ep_op h)
theorem e_un {op : UnaryOp} {r : V → Hp → VK → Prop} (ho : UnR c.X (unaryOp op) r) (h : Ee c Γ M a fun x M1 => O1 c r x M1 P) : Ee c Γ M (.UnaryOp op a pos) P :=
  e_of (pe_un ho pe_sem) fun σ H H1 Q tr sl q => h σ H H1 _ tr sl fun x M1 v H' H2 p tr1 e1 i1 =>
    p H' H2 v Q tr1 i1 fun d M' z H4 H5 p4 tr4 e4 i4 => q d M' z H4 H5 p4 tr4 (e1.trans e4) i4
theorem e_cmp {op : CmpOp} {r : R2} (ho : OpR c.X (compareOp op) r) (hm : behindInMarks op b = false) (h : Ee c Γ M a fun x M1 => Ee c Γ M1 b fun y M2 => O2 c r x y M2 P) : Ee c Γ M (.Compare a [op] [b] pos) P :=
  e_of (pe_cmpR ho pe_sem pe_sem hm) (ep_op h)
abbrev AsT (T : Bool → Mem → Prop) : D → Mem → Prop := fun d M => ∃ b, d = dB b ∧ T b M
theorem tp_test {te : TE} (h : Ep c te Γ M (AsT T)) : Tp c (tTest te) Γ M T := fun σ H H1 Q tr sl q => h σ H H1 _ tr sl fun d M' v H' H2 p tr1 e1 i1 => by
  obtain ⟨b, rfl, p⟩ := p
  exact ⟨b, i1.bl, q b M' H' H2 p tr1 e1⟩
theorem t_cmp {op : CmpOp} {r : R2} (ho : OpR c.X (compareOp op) r) (hm : behindInMarks op b = false) (h : Ee c Γ M a fun x M1 => Ee c Γ M1 b fun y M2 => O2 c r x y M2 (AsT T)) : Et c Γ M (.Compare a [op] [b] pos) T :=
  t_of (pt_cmpR ho pe_sem pe_sem hm) (tp_test (ep_op h))
theorem ep_chain {ta tb tc : TE} {r r' : R2} (h : Ep c ta Γ M fun x M1 => Ep c tb Γ M1 fun y M2 => O2 c r x y M2 fun d M3 => ∃ k, d = dB k ∧ (k = true → Ep c tc Γ M3 fun z M4 => O2 c r' y z M4 P) ∧ (k = false → P (dB false) M3)) :
    Ep c (tChain r r' ta tb tc) Γ M P := fun σ H H1 Q tr sl q => by
  refine h σ H H1 _ tr sl fun x M1 v H' H2 p tr1 e1 i1 => ?_
  refine p σ H' H2 _ tr1 (sl.mono e1) fun y M2 u H'' H3 p2 tr2 e2 i2 => ?_
  refine p2 H'' H3 v u _ tr2 (i1.mono e2) i2 fun d M3 z H4 H5 p4 tr4 e4 i4 => ?_
  obtain ⟨k, rfl, hT, hF⟩ := p4
  refine ⟨k, i4.bl, ?_⟩
  cases k with
  | true =>
    rw [if_pos rfl]
    refine hT rfl σ H4 H5 _ tr4 (sl.mono ((e1.trans e2).trans e4)) fun z M4 w H6 H7 p6 tr6 e6 i6 => ?_
    exact p6 H6 H7 u w Q tr6 (i2.mono (e4.trans e6)) i6 fun d M' z H8 H9 p8 tr8 e8 i8 => q d M' z H8 H9 p8 tr8 ((((e1.trans e2).trans e4).trans e6).trans e8) i8
  | false =>
    rw [if_neg Bool.false_ne_true]
    exact q _ _ _ H4 H5 (hF rfl) tr4 ((e1.trans e2).trans e4) (Dq.bl false)
theorem e_chain {op op' : CmpOp} {r r' : R2} {d : Expr} (ho : OpR c.X (compareOp op) r) (ho' : OpR c.X (compareOp op') r') (hm : lastMarks [op, op'] [b, d] = false)
    (h : Ee c Γ M a fun x M1 => Ee c Γ M1 b fun y M2 => O2 c r x y M2 fun w M3 => ∃ k, w = dB k ∧ (k = true → Ee c Γ M3 d fun z M4 => O2 c r' y z M4 P) ∧ (k = false → P (dB false) M3)) :
    Ee c Γ M (.Compare a [op, op'] [b, d] pos) P := e_of (pe_chain ho ho' pe_sem pe_sem pe_sem hm) (ep_chain h)
theorem t_chain {op op' : CmpOp} {r r' : R2} {d : Expr} (ho : OpR c.X (compareOp op) r) (ho' : OpR c.X (compareOp op') r') (hm : lastMarks [op, op'] [b, d] = false)
    (h : Ee c Γ M a fun x M1 => Ee c Γ M1 b fun y M2 => O2 c r x y M2 fun w M3 => ∃ k, w = dB k ∧ (k = true → Ee c Γ M3 d fun z M4 => O2 c r' y z M4 (AsT T)) ∧ (k = false → AsT T (dB false) M3)) :
    Et c Γ M (.Compare a [op, op'] [b, d] pos) T := t_of (pt_chain ho ho' pe_sem pe_sem pe_sem hm) (tp_test (ep_chain h))

theorem t_val (he : ∀ whole, isTrue e c.X.env whole = (do let v ← whole; standAt e.pos; holding [v] (truthy v))) (h : Ee c Γ M e (AsT T)) : Et c Γ M e T :=
  t_of (pt_val pe_sem he) fun σ H H1 Q tr sl q => h σ H H1 _ tr sl fun d M' v H' H2 p tr1 e1 i1 => by
    obtain ⟨b, rfl, p⟩ := p
    exact ⟨b, i1.bl, q b M' H' H2 p tr1 e1⟩
theorem t_not (h : Et c Γ M a fun b M1 => T (!b) M1) : Et c Γ M (.UnaryOp .Not a pos) T :=
  t_of (pt_not pt_sem) fun σ H H1 Q tr sl q => h σ H H1 _ tr sl fun b M' H' H2 p tr1 e1 => q _ M' H' H2 p tr1 e1
theorem t_w (h : Ew c Γ M e T) : Et c Γ M e T := t_of (PW.pt pw_sem) h
theorem w_and {rest : List Expr} (h : Et c Γ M a fun x M1 => (x = true → Ew c Γ M1 (.BoolOp .And (b :: rest) pos) T) ∧ (x = false → T false M1)) : Ew c Γ M (.BoolOp .And (a :: b :: rest) pos) T :=
  w_of (pw_and pt_sem pw_sem) fun σ H H1 Q tr sl q => h σ H H1 _ tr sl fun x M' H' H2 p tr1 e1 => by
    cases x with
    | true => rw [if_pos rfl]; exact p.1 rfl σ H' H2 Q tr1 (sl.mono e1) fun y M2 H3 H4 p2 tr2 e2 => q y M2 H3 H4 p2 tr2 (e1.trans e2)
    | false => rw [if_neg Bool.false_ne_true]; exact q false M' H' H2 (p.2 rfl) tr1 e1
theorem w_or {rest : List Expr} (h : Et c Γ M a fun x M1 => (x = true → T true M1) ∧ (x = false → Ew c Γ M1 (.BoolOp .Or (b :: rest) pos) T)) : Ew c Γ M (.BoolOp .Or (a :: b :: rest) pos) T :=
  w_of (pw_or pt_sem pw_sem) fun σ H H1 Q tr sl q => h σ H H1 _ tr sl fun x M' H' H2 p tr1 e1 => by
    cases x with
    | true => rw [if_pos rfl]; exact q true M' H' H2 (p.1 rfl) tr1 e1
    | false => rw [if_neg Bool.false_ne_true]; exact p.2 rfl σ H' H2 Q tr1 (sl.mono e1) fun y M2 H3 H4 p2 tr2 e2 => q y M2 H3 H4 p2 tr2 (e1.trans e2)
theorem w_and1 (h : Et c Γ M a T) : Ew c Γ M (.BoolOp .And [a] pos) T := w_of (pw_and1 pt_sem) h
theorem w_or1 (h : Et c Γ M a T) : Ew c Γ M (.BoolOp .Or [a] pos) T := w_of (pw_or1 pt_sem) h
theorem e_and {rest : List Expr} (h : Ee c Γ M a fun d M1 => ∃ x, d = dB x ∧ (x = true → Ee c Γ M1 (.BoolOp .And (b :: rest) pos) P) ∧ (x = false → P (dB false) M1)) : Ee c Γ M (.BoolOp .And (a :: b :: rest) pos) P :=
  e_of (pe_and pe_sem pe_sem) fun σ H H1 Q tr sl q => h σ H H1 _ tr sl fun d M' v H' H2 p tr1 e1 i1 => by
    obtain ⟨x, rfl, p⟩ := p
    refine ⟨x, i1.bl, ?_⟩
    cases x with
    | true => rw [if_pos rfl]; exact p.1 rfl σ H' H2 Q tr1 (sl.mono e1) fun y M2 z H3 H4 p2 tr2 e2 i2 => q y M2 z H3 H4 p2 tr2 (e1.trans e2) i2
    | false => rw [if_neg Bool.false_ne_true]; exact q _ M' _ H' H2 (p.2 rfl) tr1 e1 (Dq.bl false)
theorem e_or {rest : List Expr} (h : Ee c Γ M a fun d M1 => ∃ x, d = dB x ∧ (x = true → P (dB true) M1) ∧ (x = false → Ee c Γ M1 (.BoolOp .Or (b :: rest) pos) P)) : Ee c Γ M (.BoolOp .Or (a :: b :: rest) pos) P :=
  e_of (pe_or pe_sem pe_sem) fun σ H H1 Q tr sl q => h σ H H1 _ tr sl fun d M' v H' H2 p tr1 e1 i1 => by
    obtain ⟨x, rfl, p⟩ := p
    refine ⟨x, i1.bl, ?_⟩
    cases x with
    | true => rw [if_pos rfl]; exact q _ M' _ H' H2 (p.1 rfl) tr1 e1 (Dq.bl true)
    | false => rw [if_neg Bool.false_ne_true]; exact p.2 rfl σ H' H2 Q tr1 (sl.mono e1) fun y M2 z H3 H4 p2 tr2 e2 i2 => q y M2 z H3 H4 p2 tr2 (e1.trans e2) i2
theorem e_one {op} (h : Ee c Γ M a P) : Ee c Γ M (.BoolOp op [a] pos) P := e_of (pe_one pe_sem) h
theorem e_not (h : Ee c Γ M a fun d M1 => ∃ x, d = dB x ∧ P (dB (!x)) M1) : Ee c Γ M (.UnaryOp .Not a pos) P :=
  e_of (pe_not pe_sem) fun σ H H1 Q tr sl q => h σ H H1 _ tr sl fun d M' v H' H2 p tr1 e1 i1 => by
    obtain ⟨x, rfl, p⟩ := p
    exact ⟨x, i1.bl, q _ M' _ H' H2 p tr1 e1 (Dq.bl _)⟩
theorem e_if {t : Expr} (h : Et c Γ M t fun x M1 => (x = true → Ee c Γ M1 a P) ∧ (x = false → Ee c Γ M1 b P)) : Ee c Γ M (.IfExp t a b pos) P :=
  e_of (pe_ifExp pt_sem pe_sem pe_sem) fun σ H H1 Q tr sl q => h σ H H1 _ tr sl fun x M' H' H2 p tr1 e1 => by
    cases x with
    | true => rw [if_pos rfl]; exact p.1 rfl σ H' H2 Q tr1 (sl.mono e1) fun y M2 z H3 H4 p2 tr2 e2 i2 => q y M2 z H3 H4 p2 tr2 (e1.trans e2) i2
    | false => rw [if_neg Bool.false_ne_true]; exact p.2 rfl σ H' H2 Q tr1 (sl.mono e1) fun y M2 z H3 H4 p2 tr2 e2 i2 => q y M2 z H3 H4 p2 tr2 (e1.trans e2) i2

theorem a_nil (p : A [] M) : Ea c Γ M [] A := a_of pa_nil fun σ H H1 Q tr sl q => q [] M [] H H1 p tr (Evl.Ex.refl H) trivial
theorem a_cons (hs : starEach (e :: es) c.X.env = (false, eval e c.X.env) :: starEach es c.X.env) (h : Ee c Γ M e fun x M1 => Ea c Γ M1 es fun xs M2 => A (x :: xs) M2) : Ea c Γ M (e :: es) A :=
  a_of (pa_cons pe_sem pa_sem hs) fun σ H H1 Q tr sl q => h σ H H1 _ tr sl fun x M1 v H' H2 p tr1 e1 i1 =>
    p σ H' H2 _ tr1 (sl.mono e1) fun xs M2 vs H3 H4 p2 tr2 e2 i2 => q (x :: xs) M2 (v :: vs) H3 H4 p2 tr2 (e1.trans e2) ⟨i1.mono e2, i2⟩
def allP : List D → Option (List PyData)
  | [] => some []
  | .p d :: r => (allP r).map (d :: ·)
  | _ :: _ => none
theorem allP_eq : ∀ {ds : List D} {ps : List PyData}, allP ds = some ps → ds = ps.map D.p
  | [], ps, h => by cases h; rfl
  | .p d :: r, ps, h => by
    have h : (allP r).map (d :: ·) = some ps := h
    cases e : allP r with
    | none => rw [e] at h; cases h
    | some qs =>
      rw [e] at h
      cases h
      rw [allP_eq e]; rfl
  | .scr _ :: _, _, h => by cases h
  | .scp _ :: _, _, h => by cases h
  | .own _ :: _, _, h => by cases h
theorem e_tup {j} (h : Ea c Γ M es fun ds M1 => ∃ ps : List PyData, allP ds = some ps ∧ Nat.ble ps.length 100000 = true ∧ P (dT ps) M1) : Ee c Γ M (.Tuple es j pos) P :=
  e_of (pe_tup pa_sem) fun σ H H1 Q tr sl q => h σ H H1 _ tr sl fun ds M1 vs H' H2 p tr1 e1 i1 => by
    obtain ⟨ps, hps, hl, p⟩ := p
    have hl := Nat.le_of_ble_eq_true hl
    have hps := allP_eq hps
    subst hps
    have dp := i1.dp
    refine ⟨Evl.sz_of (by rw [dpa_len dp]; exact hl), fun a ha => ?_⟩
    have t2 := tr1.ok.new (o := .tup vs) ha
    exact q _ M1 _ _ _ p (tr1.trans t2) (e1.trans t2.ex) (Dq.tup (SqT.of upd_same) (dpa_mono t2.ex _ _ dp))
theorem e_lst (h : Ea c Γ M es fun ds M1 => ∃ ps : List PyData, allP ds = some ps ∧ Nat.ble ps.length 100000 = true ∧ P (dL ps) M1) : Ee c Γ M (.List es pos) P :=
  e_of (pe_lst pa_sem) fun σ H H1 Q tr sl q => h σ H H1 _ tr sl fun ds M1 vs H' H2 p tr1 e1 i1 => by
    obtain ⟨ps, hps, hl, p⟩ := p
    have hl := Nat.le_of_ble_eq_true hl
    have hps := allP_eq hps
    subst hps
    have dp := i1.dp
    refine ⟨Evl.sz_of (by rw [dpa_len dp]; exact hl), fun a ha => ?_⟩
    have t2 := tr1.ok.new (o := .lst vs) ha
    exact q _ M1 _ _ _ p (tr1.trans t2) (e1.trans t2.ex) (Dq.lst upd_same (dpa_mono t2.ex _ _ dp))
theorem e_lstO (h : Ea c Γ M es fun ds M1 => ∃ ps : List PyData, allP ds = some ps ∧ Nat.ble ps.length 100000 = true ∧ ∀ a, P (.own a) ((a, .lst ps) :: M1)) : Ee c Γ M (.List es pos) P :=
  e_of (pe_lst pa_sem) fun σ H H1 Q tr sl q => h σ H H1 _ tr sl fun ds M1 vs H' H2 p tr1 e1 i1 => by
    obtain ⟨ps, hps, hl, p⟩ := p
    have hl := Nat.le_of_ble_eq_true hl
    have hps := allP_eq hps
    subst hps
    have dp := i1.dp
    refine ⟨Evl.sz_of (by rw [dpa_len dp]; exact hl), fun a ha => ?_⟩
    have t2 := tr1.ok.newOwn (o := .lst vs) (c := .lst ps) ha rfl ⟨vs, upd_same, dp⟩
    exact q _ _ _ _ _ (p a) (tr1.trans t2) (e1.trans t2.ex) rfl

theorem b_nil (p : nx_ Γ M) : Eb c Γ M [] ⟨nx_, rt_, bk_, ct_⟩ := b_of pss_nil fun σ H H1 E tr sl r => r.nx Γ M σ H H1 p tr (Evl.Ex.refl H) sl
theorem b_cons {st : Stmt} {rest : List Stmt} (h : Es c Γ M st ⟨fun Γ' M' => Eb c Γ' M' rest ⟨nx_, rt_, bk_, ct_⟩, rt_, bk_, ct_⟩) : Eb c Γ M (st :: rest) ⟨nx_, rt_, bk_, ct_⟩ :=
  b_of (pss_cons ps_sem pss_sem) fun σ H H1 E tr sl r => h σ H H1 { E with nx := bSem c.X rest E } tr sl ⟨fun Γ' M' σ' H' H2 p tr1 e1 sl1 => p σ' H' H2 E tr1 sl1 (r.mono e1), r.rt, r.bk, r.ct⟩
theorem b_cons' {st : Stmt} {bl rest : List Stmt} (hb : bl = st :: rest) (h : Es c Γ M st ⟨fun Γ' M' => Eb c Γ' M' rest ⟨nx_, rt_, bk_, ct_⟩, rt_, bk_, ct_⟩) : Eb c Γ M bl ⟨nx_, rt_, bk_, ct_⟩ := by
  subst hb; exact b_cons h
theorem s_ret (h : Ee c Γ M e rt_) : Es c Γ M (.Return (some e) pos) ⟨nx_, rt_, bk_, ct_⟩ := s_of (ps_ret pe_sem) fun σ H H1 E tr sl r => h σ H H1 _ tr sl fun d M' v H' H2 p tr1 e1 i1 => r.rt d M' v H' H2 p tr1 e1 i1
theorem s_retN (h : rt_ dN M) : Es c Γ M (.Return none pos) ⟨nx_, rt_, bk_, ct_⟩ := s_of ps_retN fun σ H H1 E tr sl r => r.rt dN M .non H H1 h tr (Evl.Ex.refl H) Dq.non
theorem s_pass (h : nx_ Γ M) : Es c Γ M (.Pass pos) ⟨nx_, rt_, bk_, ct_⟩ := s_of ps_pass fun σ H H1 E tr sl r => r.nx Γ M σ H H1 h tr (Evl.Ex.refl H) sl
theorem s_break (h : bk_ Γ M) : Es c Γ M (.Break pos) ⟨nx_, rt_, bk_, ct_⟩ := s_of ps_break fun σ H H1 E tr sl r => r.bk Γ M σ H H1 h tr (Evl.Ex.refl H) sl
theorem s_cont (h : ct_ Γ M) : Es c Γ M (.Continue pos) ⟨nx_, rt_, bk_, ct_⟩ := s_of ps_continue fun σ H H1 E tr sl r => r.ct Γ M σ H H1 h tr (Evl.Ex.refl H) sl
theorem s_expr (hs : swapsWith e none pos.line c.X.env = pure false) (h : Ee c Γ M e fun _ M1 => nx_ Γ M1) : Es c Γ M (.Expr e pos) ⟨nx_, rt_, bk_, ct_⟩ :=
  s_of (ps_expr pe_sem hs) fun σ H H1 E tr sl r => h σ H H1 _ tr sl fun d M' v H' H2 p tr1 e1 i1 => r.nx Γ M' σ H' H2 p tr1 e1 (sl.mono e1)
theorem s_if {t : Expr} {x y : List Stmt} (h : Et c Γ M t fun z M1 => (z = true → Eb c Γ M1 x ⟨nx_, rt_, bk_, ct_⟩) ∧ (z = false → Eb c Γ M1 y ⟨nx_, rt_, bk_, ct_⟩)) : Es c Γ M (.If t x y pos) ⟨nx_, rt_, bk_, ct_⟩ :=
  s_of (ps_if pt_sem pss_sem pss_sem) fun σ H H1 E tr sl r => h σ H H1 _ tr sl fun z M' H' H2 p tr1 e1 => by
    cases z with
    | true => rw [if_pos rfl]; exact p.1 rfl σ H' H2 E tr1 (sl.mono e1) (r.mono e1)
    | false => rw [if_neg Bool.false_ne_true]; exact p.2 rfl σ H' H2 E tr1 (sl.mono e1) (r.mono e1)
theorem loc_of {x : Str} (o : c.Ok N sc k) (h : L2.Loc sc x) : L2.Loc c.X.env.scope x := by rw [o.esc]; exact h
theorem fn_of' {x : Str} (o : c.Ok N sc k) (h : sc.names.lookup x = some .local ∨ c.lvl = true) : c.X.fn x = true ∨ c.X.env.scope.names.lookup x = some .local := by rw [o.esc]; exact h.elim .inr fun z => .inl (o.fn z x)
theorem s_set {x : Str} {i : Nat} {pos' : Pos} [hi : At N x i] (o : c.Ok N sc k) (hl : L2.Loc sc x) (hf : sc.names.lookup x = some .local ∨ c.lvl = true) (hs : swapsWith e (some (.Name x pos')) pos.line c.X.env = pure false) (h : Ee c Γ M e fun d M1 => nx_ (Γ.set i (some d)) M1) : Es c Γ M (.Assign [.Name x pos'] e pos) ⟨nx_, rt_, bk_, ct_⟩ :=
  s_of (ps_set (i := i) (by rw [o.hN]; exact o.nd) (by rw [o.hN]; exact hi.at_) (loc_of o hl) pe_sem hs (fn_of' o hf)) fun σ H H1 E tr sl r => h σ H H1 _ tr sl fun d M' v H' H2 p tr1 e1 i1 =>
    r.nx _ M' _ H' H2 p tr1 e1 ((sl.mono e1).set i i1)
theorem g_name {x : Str} {i : Nat} {d : D} {Pg : Gx → Mem → Prop} [hi : At N x i] (o : c.Ok N sc k) (hl : L2.Loc sc x) (hf : sc.names.lookup x = some .local ∨ c.lvl = true) (p : Pg (Γ.set i (some d)) M) : Eg c Γ M (.Name x pos) d Pg := fun σ H H1 v Q tr sl iv q =>
  pg_to (pg_name (i := i) (by rw [o.hN]; exact o.nd) (by rw [o.hN]; exact hi.at_) (loc_of o hl) (fn_of' o hf)) (q _ M _ H H1 p tr (Evl.Ex.refl H) (sl.set i iv))
end
end CR

namespace CR
open PySem PySem.Spec PyProof.Rows L2
open Evl (Ex)

abbrev Phi := List D → Mem → (D → Mem → Prop) → (Addr → List (Str × PyData) → Mem → Prop) → Prop
def spOf (G : Gm) (φ : Phi) : Sp := fun vs H1 Q E => ∃ (H : Hp) (M : Mem) (ds : List D) (P : D → Mem → Prop) (R : Addr → List (Str × PyData) → Mem → Prop), CR.Ok G H H1 M ∧ IsAll G H vs ds ∧ φ ds M P R ∧
  (∀ d M' v H' H2, P d M' → Tr G ⟨H, H1, M⟩ H' H2 M' → Is G H' v d → Q v H2) ∧ (∀ C fs M' cls dd H' H2, R C fs M' → Tr G ⟨H, H1, M⟩ H' H2 M' → ExAt G H' H2 cls dd C fs → E cls dd H2)
structure Fd (m : Md) (CX : CXT) (k : Nat) (x : Str) (φ : Phi) : Prop where
  ex : ∃ (f : Addr) (fd : FuncData) (ps : List Str), FnOk m.P m.w m.K m.mg m.base CX k f fd ps (spOf m.G φ) ∧ m.mg x = some (.ref f) ∧ PySem.W.keepIn m.K (.ref f) = true ∧ Binds m.K fd ps []
abbrev NoR : Addr → List (Str × PyData) → Mem → Prop := fun _ _ _ => False

theorem fn_ok {m : Md} {x qual : Str} {st : Stmt} {f : Addr} {fd : FuncData} {N ps : List Str} {k : Nat} {φ : Phi} (F : Fun m.K x qual st f fd) (S : FnScope N ps (defScope st)) (len : ∀ ds M P R, φ ds M P R → ds.length = ps.length)
    (body : ∀ (c : Cd) (ds : List D) (M : Mem) (P : D → Mem → Prop) (R : Addr → List (Str × PyData) → Mem → Prop), c.m = m → c.Ok N (defScope st) k → c.lvl = true → φ ds M P R →
      Eb c (ds.map some ++ List.replicate (N.length - ds.length) none) M (defBody st) { nx := fun _ M' => P dN M', rt := P }) :
    FnOk m.P m.w m.K m.mg m.base CX0 (k + 1) f fd ps (spOf m.G φ) := by
  refine F.ok S (fun vs H Q E h => ?_) (fun cdv A outer s H vs Q E hr h => ?_)
  · obtain ⟨H0, M, ds, P, R, h1, h2, h3, h4, h5⟩ := h
    rw [h2.len]
    exact len _ _ _ _ h3
  · obtain ⟨H0, M, ds, P, R, h1, h2, h3, h4, h5⟩ := h
    refine ⟨_, pss_sem, ?_⟩
    refine body ⟨m, (cxOf CX0 m.P m.w m.K m.mg m.base N qual (defScope st) f cdv A outer s H E).nox, ⟨H0, H, M⟩, fun _ _ _ _ => False, fun _ _ _ _ => False, true⟩ ds M P R rfl ?_ rfl h3 _ H0 H _ (Tr.refl h1) (Slots.start h2) ?_
    · exact ⟨rfl, rfl, rfl, rfl, rfl, rfl, S.nd, rfl, rfl, fun _ _ => rfl, hr, PassesOwn.never, takes0, fun _ _ _ _ _ _ _ _ _ h => h.elim⟩
    · exact ⟨fun Γ M' σ H' H2 p tr _ sl => h4 dN M' .non H' H2 p tr Dq.non, fun d M' v H' H2 p tr _ i => h4 d M' v H' H2 p tr i, fun _ _ _ _ _ h => h.elim, fun _ _ _ _ _ h => h.elim⟩
theorem fn_okX {m : Md} {x qual : Str} {st : Stmt} {f : Addr} {fd : FuncData} {N ps : List Str} {k : Nat} {φ : Phi} (F : Fun m.K x qual st f fd) (S : FnScope N ps (defScope st)) (len : ∀ ds M P R, φ ds M P R → ds.length = ps.length)
    (body : ∀ (c : Cd) (ds : List D) (M : Mem) (P : D → Mem → Prop) (R : Addr → List (Str × PyData) → Mem → Prop), c.m = m → c.Ok N (defScope st) k → c.lvl = true → (c.R = fun C fs _ M => R C fs M) → φ ds M P R →
      Eb c (ds.map some ++ List.replicate (N.length - ds.length) none) M (defBody st) { nx := fun _ M' => P dN M', rt := P }) :
    FnOk m.P m.w m.K m.mg m.base (L2.CX m.P m.w) (k + 1) f fd ps (spOf m.G φ) := by
  refine F.okX S (fun vs H Q E h => ?_) (fun cdv A outer s H vs Q E hr h => ?_)
  · obtain ⟨H0, M, ds, P, R, h1, h2, h3, h4, h5⟩ := h
    rw [h2.len]
    exact len _ _ _ _ h3
  · obtain ⟨H0, M, ds, P, R, h1, h2, h3, h4, h5⟩ := h
    refine ⟨_, pss_sem, ?_⟩
    refine body ⟨m, cxOf (L2.CX m.P m.w) m.P m.w m.K m.mg m.base N qual (defScope st) f cdv A outer s H E, ⟨H0, H, M⟩, fun cls d σ H => E cls d H, fun C fs _ M => R C fs M, true⟩ ds M P R rfl ?_ rfl rfl h3 _ H0 H _ (Tr.refl h1) (Slots.start h2) ?_
    · exact ⟨rfl, rfl, rfl, rfl, rfl, rfl, S.nd, rfl, rfl, fun _ _ => rfl, hr, passes_of rfl, takes_of rfl rfl rfl rfl, fun C fs Γ M σ H H1 cls d r tr sl e => h5 C fs M cls d H H1 r tr e⟩
    · exact ⟨fun Γ M' σ H' H2 p tr _ sl => h4 dN M' .non H' H2 p tr Dq.non, fun d M' v H' H2 p tr _ i => h4 d M' v H' H2 p tr i, fun _ _ _ _ _ h => h.elim, fun _ _ _ _ _ h => h.elim⟩

section
variable {c : Cd} {N : List Str} {sc : Scope} {k : Nat} {Γ : Gx} {M : Mem} {P : D → Mem → Prop} {T : Bool → Mem → Prop} {A : List D → Mem → Prop} {D' : De} {nx_ : Gx → Mem → Prop} {rt_ : D → Mem → Prop} {bk_ ct_ : Gx → Mem → Prop} {e a b : Expr} {es : List Expr} {pos p : Pos}

theorem e_call {x : Str} {φ : Phi} {j : Nat} (F : Fd c.m CX0 j x φ) (o : c.Ok N sc k) (hj : j ≤ k) (hg : sc.names.lookup x = some .globalImplicit) (hx : (x == ("__debug__" : Str)) = false)
    (he : starEach (e :: es) c.X.env = (false, eval e c.X.env) :: starEach es c.X.env) (hpl : (backTo pos (starEach es c.X.env)).any (·.1) = false)
    (h : Ea c Γ M (e :: es) fun ds M1 => φ ds M1 P NoR) : Ee c Γ M (.Call (.Name x p) (e :: es) [] pos) P := by
  obtain ⟨f, fd, ps, F, hm, hk, hb⟩ := F.ex
  have F' : FnOk c.X.prog c.X.w c.X.K c.X.mg c.X.base CX0 j f fd ps (spOf c.G φ) := by rw [o.prog, o.ew, o.K, o.mg, o.base]; exact F
  refine e_of (pe_call (dvs := []) F' (o.room.mono hj) (gl_of o hg) (by rw [o.mg]; exact hm) (by rw [o.K]; exact hk) (by rw [o.K]; exact hb) .nil pass0 pa_sem hx he hpl) fun σ H H1 Q tr sl q => h σ H H1 _ tr sl fun ds M1 vs H' H2 p1 tr1 e1 i1 => ?_
  refine ⟨H', M1, ds, P, NoR, tr1.ok, by rw [List.append_nil]; exact i1, p1, fun d M' v H3 H4 p3 t3 i3 => q d M' v H3 H4 p3 (tr1.trans t3) (e1.trans t3.ex) i3, fun _ _ _ _ _ _ _ z => z.elim⟩
theorem e_call0 {x : Str} {φ : Phi} {j : Nat} (F : Fd c.m CX0 j x φ) (o : c.Ok N sc k) (hj : j ≤ k) (hg : sc.names.lookup x = some .globalImplicit) (hx : (x == ("__debug__" : Str)) = false)
    (h : φ [] M P NoR) : Ee c Γ M (.Call (.Name x p) [] [] pos) P := by
  obtain ⟨f, fd, ps, F, hm, hk, hb⟩ := F.ex
  have F' : FnOk c.X.prog c.X.w c.X.K c.X.mg c.X.base CX0 j f fd ps (spOf c.G φ) := by rw [o.prog, o.ew, o.K, o.mg, o.base]; exact F
  refine e_of (pe_call0 (dvs := []) F' (o.room.mono hj) (gl_of o hg) (by rw [o.mg]; exact hm) (by rw [o.K]; exact hk) (by rw [o.K]; exact hb) .nil pass0 hx) fun σ H H1 Q tr sl q => ?_
  exact ⟨H, M, [], P, NoR, tr.ok, trivial, h, fun d M' v H3 H4 p3 t3 i3 => q d M' v H3 H4 p3 (tr.trans t3) t3.ex i3, fun _ _ _ _ _ _ _ z => z.elim⟩
theorem e_callN {x : Str} {φ : Phi} {j : Nat} (F : Fd c.m (L2.CX c.m.P c.m.w) j x φ) (o : c.Ok N sc k) (hj : j ≤ k) (hg : sc.names.lookup x = some .globalImplicit) (hx : (x == ("__debug__" : Str)) = false)
    (he : starEach (e :: es) c.X.env = (false, eval e c.X.env) :: starEach es c.X.env) (hpl : (backTo pos (starEach es c.X.env)).any (·.1) = false)
    (h : Ea c Γ M (e :: es) fun ds M1 => φ ds M1 P NoR) : Ee c Γ M (.Call (.Name x p) (e :: es) [] pos) P := by
  obtain ⟨f, fd, ps, F, hm, hk, hb⟩ := F.ex
  have F' : FnOk c.X.prog c.X.w c.X.K c.X.mg c.X.base (L2.CX c.X.prog c.X.w) j f fd ps (spOf c.G φ) := by rw [o.prog, o.ew, o.K, o.mg, o.base]; exact F
  refine e_of (pe_call (dvs := []) F' (o.room.mono hj) (gl_of o hg) (by rw [o.mg]; exact hm) (by rw [o.K]; exact hk) (by rw [o.K]; exact hb) .nil passL pa_sem hx he hpl) fun σ H H1 Q tr sl q => h σ H H1 _ tr sl fun ds M1 vs H' H2 p1 tr1 e1 i1 => ?_
  refine ⟨H', M1, ds, P, NoR, tr1.ok, by rw [List.append_nil]; exact i1, p1, fun d M' v H3 H4 p3 t3 i3 => q d M' v H3 H4 p3 (tr1.trans t3) (e1.trans t3.ex) i3, fun _ _ _ _ _ _ _ z => z.elim⟩
theorem e_callX {x : Str} {φ : Phi} {j : Nat} (F : Fd c.m (L2.CX c.m.P c.m.w) j x φ) (o : c.Ok N sc k) (hj : j ≤ k) (hg : sc.names.lookup x = some .globalImplicit) (hx : (x == ("__debug__" : Str)) = false)
    (he : starEach (e :: es) c.X.env = (false, eval e c.X.env) :: starEach es c.X.env) (hpl : (backTo pos (starEach es c.X.env)).any (·.1) = false)
    (h : Ea c Γ M (e :: es) fun ds M1 => φ ds M1 P fun C fs M' => c.R C fs Γ M') : Ee c Γ M (.Call (.Name x p) (e :: es) [] pos) P := by
  obtain ⟨f, fd, ps, F, hm, hk, hb⟩ := F.ex
  have F' : FnOk c.X.prog c.X.w c.X.K c.X.mg c.X.base (L2.CX c.X.prog c.X.w) j f fd ps (spOf c.G φ) := by rw [o.prog, o.ew, o.K, o.mg, o.base]; exact F
  refine e_of (pe_callS (E := WE c.W) F' (o.room.mono hj) (gl_of o hg) (by rw [o.mg]; exact hm) (by rw [o.K]; exact hk) (by rw [o.K]; exact hb) (fun σ => passAt o.tk σ) pa_sem hx he hpl) fun σ H H1 Q tr sl q => h σ H H1 _ tr sl fun ds M1 vs H' H2 p1 tr1 e1 i1 => ?_
  refine ⟨H', M1, ds, P, _, tr1.ok, i1, p1, fun d M' v H3 H4 p3 t3 i3 => q d M' v H3 H4 p3 (tr1.trans t3) (e1.trans t3.ex) i3, fun C fs M' cls dd H3 H4 r t3 x => ?_⟩
  exact o.hR C fs Γ M' σ H3 H4 cls dd r (tr1.trans t3) (sl.mono (e1.trans t3.ex)) x
theorem e_callB {x : Str} {id : String} {r : List V → Hp → VK → Prop} (hc : CallR c.X (.builtin id) r) (o : c.Ok N sc k) (hg : sc.names.lookup x = some .globalImplicit) (hm : c.m.mg x = none) (hv : bootBuiltins x = some (.builtin id))
    (hn : x ≠ "__name__") (hx : (x == ("__debug__" : Str)) = false) (he : starEach (e :: es) c.X.env = (false, eval e c.X.env) :: starEach es c.X.env) (hpl : (backTo pos (starEach es c.X.env)).any (·.1) = false)
    (h : Ea c Γ M (e :: es) fun ds M1 => OL c r ds M1 P) : Ee c Γ M (.Call (.Name x p) (e :: es) [] pos) P :=
  e_of (pe_callB (id := id) hc (gl_of o hg) (by rw [o.mg]; exact hm) hv pa_sem hn hx he hpl) fun σ H H1 Q tr sl q => h σ H H1 _ tr sl fun ds M1 vs H' H2 p1 tr1 e1 i1 =>
    p1 H' H2 vs Q tr1 i1 fun d M' z H3 H4 p3 t3 e3 i3 => q d M' z H3 H4 p3 t3 (e1.trans e3) i3
theorem e_callTy {x : Str} {id : String} {r : List V → Hp → VK → Prop} (hc : CallR c.X (.type id) r) (o : c.Ok N sc k) (hg : sc.names.lookup x = some .globalImplicit) (hm : c.m.mg x = none) (hv : bootBuiltins x = some (.type id))
    (hn : x ≠ "__name__") (hx : (x == ("__debug__" : Str)) = false) (he : starEach (e :: es) c.X.env = (false, eval e c.X.env) :: starEach es c.X.env) (hpl : (backTo pos (starEach es c.X.env)).any (·.1) = false)
    (h : Ea c Γ M (e :: es) fun ds M1 => OL c r ds M1 P) : Ee c Γ M (.Call (.Name x p) (e :: es) [] pos) P :=
  e_of (pe_callTy (T := id) hc (gl_of o hg) (by rw [o.mg]; exact hm) hv pa_sem hn hx he hpl) fun σ H H1 Q tr sl q => h σ H H1 _ tr sl fun ds M1 vs H' H2 p1 tr1 e1 i1 =>
    p1 H' H2 vs Q tr1 i1 fun d M' z H3 H4 p3 t3 e3 i3 => q d M' z H3 H4 p3 t3 (e1.trans e3) i3

def Itd (c : Cd) (J : It) (n : Nat) (f : Nat → D) (Hs : Hp) (Kp : Mem → Prop) : Prop :=
  ∀ (i : Nat) (H'' Hq : Hp) (M : Mem), Tr c.G c.B H'' Hq M → Ex Hs H'' → Kp M → (n ≤ i → J.stop i Hq) ∧ (i < n → J.go i Hq ∧ ∀ x Hp', J.yld i Hq x Hp' → ∃ H3, Tr c.G c.B H3 Hp' M ∧ Ex H'' H3 ∧ Is c.G H3 x (f i))
def iSem (X : Cx) (tg iter : Expr) : TI := fun σ H R => ∀ (pins : List (Addr × Obj)) (s : Shared), Inv X pins σ H s →
  wpAny (model X.prog X.w) X.A (eval iter X.env) (fun v s1 => wpAny (model X.prog X.w) X.A (pyIter v) (PIE X pins σ tg R) X.xe s1) X.xe s
theorem pi_sem {X : Cx} {tg iter : Expr} : PI X tg iter (iSem X tg iter) := ⟨fun pins s _ _ _ I h => h pins s I⟩
theorem pi_to {X : Cx} {tg iter : Expr} {t : TI} (h : PI X tg iter t) {σ : L2.St} {H : Hp} {R : It → Hp → Prop} (q : t σ H R) : iSem X tg iter σ H R := fun pins s I => h.run pins s σ H R I q
def Ei (c : Cd) (Γ : Gx) (M : Mem) (tg iter : Expr) (P : Nat → (Nat → D) → (Mem → Prop) → Mem → Prop) : Prop :=
  ∀ (σ : L2.St) (H H1 : Hp) (R : It → Hp → Prop), Tr c.G c.B H H1 M → Slots c.G H σ Γ → (∀ n f Kp M' J H' H2, P n f Kp M' → Tr c.G c.B H' H2 M' → Ex H H' → Itd c J n f H' Kp → R J H2) → iSem c.X tg iter σ H1 R
theorem s_for {tg iter : Expr} {body : List Stmt} (o : c.Ok N sc k) (hs : ∀ x, foldedSetIterable iter c.X.env x = pure x)
    (h : Ei c Γ M tg iter fun n f Kp M1 => ∃ J : Nat → Gx → Mem → Prop, J 0 Γ M1 ∧ (∀ i Γ' M', i ≤ n → J i Γ' M' → Kp M') ∧
      (∀ i Γ' M', i < n → J i Γ' M' → Eg c Γ' M' tg (f i) fun Γ2 M2 => Eb c Γ2 M2 body ⟨J (i + 1), rt_, nx_, J (i + 1)⟩) ∧ (∀ Γ' M', J n Γ' M' → nx_ Γ' M')) :
    Es c Γ M (.For tg iter body [] pos) ⟨nx_, rt_, bk_, ct_⟩ :=
  s_of (ps_for o.po o.calm pi_sem pg_sem pss_sem hs) fun σ H H1 E tr sl r => h σ H H1 _ tr sl fun n f Kp M1 J H' H2 p1 tr1 e1 it => by
    obtain ⟨Jv, j0, jk, js, jd⟩ := p1
    refine ⟨fun i m σ' Hq => m = n - i ∧ i ≤ n ∧ ∃ Γ' M' H'', Jv i Γ' M' ∧ Tr c.G c.B H'' Hq M' ∧ Ex H' H'' ∧ Slots c.G H'' σ' Γ', ⟨n, by simp, Nat.zero_le _, Γ, M1, H', j0, tr1, Evl.Ex.refl H', sl.mono e1⟩, ?_⟩
    rintro i m σ' Hq ⟨rfl, hi, Γ', M', H'', j, t, ex, s'⟩
    obtain ⟨hstop, hgo⟩ := it i H'' Hq M' t ex (jk i Γ' M' hi j)
    by_cases hlt : i < n
    · obtain ⟨g1, g2⟩ := hgo hlt
      refine .inr ⟨g1, fun σ5 H6 => ∃ Γ5 M5 H5, Jv (i + 1) Γ5 M5 ∧ Tr c.G c.B H5 H6 M5 ∧ Ex H' H5 ∧ Slots c.G H5 σ5 Γ5, fun σ5 H6 p5 => ⟨n - (i + 1), by omega, rfl, hlt, p5⟩, fun x Hp' y => ?_⟩
      obtain ⟨H3, t3, e3, i3⟩ := g2 x Hp' y
      refine js i Γ' M' hlt j σ' H3 Hp' x _ t3 (s'.mono e3) i3 fun Γ2 M2 σ2 H4 H5 p2 t2 x2 s2 => ?_
      have e24 : Ex H' H4 := (ex.trans e3).trans x2
      exact p2 σ2 H4 H5 _ t2 s2 ⟨fun Γ5 M5 σ5 H5 H6 j5 t5 x5 s5 => ⟨Γ5, M5, H5, j5, t5, e24.trans x5, s5⟩, fun d5 M5 v5 H5 H6 j5 t5 x5 s5 => r.rt d5 M5 v5 H5 H6 j5 t5 ((e1.trans e24).trans x5) s5,
        fun Γ5 M5 σ5 H5 H6 j5 t5 x5 s5 => r.nx Γ5 M5 σ5 H5 H6 j5 t5 ((e1.trans e24).trans x5) s5, fun Γ5 M5 σ5 H5 H6 j5 t5 x5 s5 => ⟨Γ5, M5, H5, j5, t5, e24.trans x5, s5⟩⟩
    · have e : i = n := by omega
      subst e
      exact .inl ⟨hstop (Nat.le_refl _), r.nx Γ' M' σ' H'' Hq (jd Γ' M' j) t (e1.trans ex) s'⟩
inductive Rdd (M : Mem) : D → PyData → Prop
  | p (d : PyData) : Rdd M (.p d) d
  | scp (ns : List Int) : Rdd M (.scp ns) (.list (ns.map .int))
  | own {a : Addr} {ds : List PyData} (h : (a, Cell.lst ds) ∈ M) : Rdd M (.own a) (.list ds)
theorem rd_dp {G : Gm} {B : Bs} {H H1 : Hp} {v : V} {d : D} {e : PyData} (t : Tr G B H H1 M) (i : Is G H v d) (r : Rdd M d e) : L2.Dp G.K H1 v e := by
  cases r with
  | p d => exact dq_dp _ _ (dp_mono t.ok.ex _ _ i)
  | scp ns =>
    obtain ⟨a, rfl, h2⟩ := i
    exact .lst (Evl.ex_l t.ok.ex h2) (dqa_dpa _ _ dpa_ints)
  | own h =>
    obtain ⟨vs, h1, h2⟩ := t.ok.cells _ _ h
    rw [show v = .ref _ from i]
    exact .lst (SqL.of h1) (dqa_dpa _ _ (dpa_mono t.ok.ex _ _ h2))
theorem rd_l {G : Gm} {B : Bs} {H H1 : Hp} {v : V} {d : D} {ds : List PyData} (t : Tr G B H H1 M) (i : Is G H v d) (r : Rdd M d (.list ds)) : ∃ a vs, v = .ref a ∧ SqL G.K H1 a vs ∧ DqAll G.K H vs ds := by
  generalize he : PyData.list ds = e at r
  cases r with
  | p d =>
    subst he
    obtain ⟨a, vs, h1, h2, h3⟩ := Is.lst i
    exact ⟨a, vs, h1, SqL.of (t.ok.ex _ _ h2), h3⟩
  | scp ns =>
    cases he
    obtain ⟨a, rfl, h2⟩ := i
    exact ⟨a, _, rfl, Evl.ex_l t.ok.ex h2, dpa_ints⟩
  | own h =>
    cases he
    obtain ⟨vs, h1, h2⟩ := t.ok.cells _ _ h
    exact ⟨_, vs, i, SqL.of h1, h2⟩
inductive Rdx (M : Mem) : D → List PyData → Prop
  | p (ds : List PyData) : Rdx M (dL ds) ds
  | own {a : Addr} {ds : List PyData} (h : (a, Cell.lst ds) ∈ M) : Rdx M (.own a) ds
theorem rx_l {G : Gm} {B : Bs} {H H1 : Hp} {v : V} {d : D} {ds : List PyData} (t : Tr G B H H1 M) (i : Is G H v d) (r : Rdx M d ds) : ∃ a vs, v = .ref a ∧ H1 a = some (.lst vs) ∧ DqAll G.K H vs ds := by
  cases r with
  | p =>
    obtain ⟨a, vs, h1, h2, h3⟩ := Is.lst i
    exact ⟨a, vs, h1, t.ok.ex _ _ h2, h3⟩
  | own h =>
    obtain ⟨vs, h1, h2⟩ := t.ok.cells _ _ h
    exact ⟨_, vs, i, h1, h2⟩
theorem rd_t {G : Gm} {B : Bs} {H H1 : Hp} {v : V} {d : D} {ds : List PyData} (t : Tr G B H H1 M) (i : Is G H v d) (r : Rdd M d (.tuple ds)) : ∃ a vs, v = .ref a ∧ SqT G.K H1 a vs ∧ DqAll G.K H vs ds := by
  cases r with
  | p d =>
    obtain ⟨a, vs, h1, h2, h3⟩ := Is.tup i
    exact ⟨a, vs, h1, Evl.ex_t t.ok.ex h2, h3⟩
theorem getD_of {ds : List PyData} {i : Nat} (h : i < ds.length) : ds[i]? = some (ds.getD i .none) := by
  simp [h]
theorem i_list {tg iter : Expr} {Pi : Nat → (Nat → D) → (Mem → Prop) → Mem → Prop} (o : c.Ok N sc k) (h : Ee c Γ M iter fun d M1 => ∃ ds, Rdd M1 d (.list ds) ∧ Pi ds.length (fun i => .p (ds.getD i .none)) (fun M' => Rdd M' d (.list ds)) M1) : Ei c Γ M tg iter Pi :=
  fun σ H H1 R tr sl q => pi_to (pi_list pe_sem) (h σ H H1 _ tr sl fun d M1 v H' H2 p1 tr1 e1 i1 => by
    obtain ⟨ds, rd, p⟩ := p1
    obtain ⟨a, vs, rfl, hq, hd⟩ := rd_l tr1 i1 rd
    rw [show c.X.K = c.G.K from o.K]
    refine ⟨a, rfl, ⟨vs, hq⟩, q _ _ _ M1 _ H' H2 p tr1 e1 fun i H'' Hq M' t ex kp => ?_⟩
    obtain ⟨a', ws, ea, hq', hd'⟩ := rd_l t (i1.mono ex) kp
    cases ea
    have hl := dpa_len hd'
    refine ⟨fun hi => ⟨ws, hq', by omega⟩, fun hi => ?_⟩
    obtain ⟨x, hx, ix⟩ := dpa_get hd' (getD_of hi)
    refine ⟨⟨ws, x, hq', hx⟩, fun y Hp' hy => ?_⟩
    obtain ⟨rfl, hy⟩ := hy
    have := hy ws hq'
    rw [hx] at this
    cases this
    exact ⟨H'', t, Evl.Ex.refl _, ix⟩)
theorem i_tup {tg iter : Expr} {Pi : Nat → (Nat → D) → (Mem → Prop) → Mem → Prop} (o : c.Ok N sc k) (h : Ee c Γ M iter fun d M1 => ∃ ds, d = dT ds ∧ Pi ds.length (fun i => .p (ds.getD i .none)) (fun _ => True) M1) : Ei c Γ M tg iter Pi :=
  fun σ H H1 R tr sl q => pi_to (pi_tup pe_sem) (h σ H H1 _ tr sl fun d M1 v H' H2 p1 tr1 e1 i1 => by
    obtain ⟨ds, rfl, p⟩ := p1
    obtain ⟨a, vs, rfl, hq, hd⟩ := rd_t tr1 i1 (.p _)
    rw [show c.X.K = c.G.K from o.K]
    refine ⟨a, rfl, ⟨vs, hq⟩, q _ _ _ M1 _ H' H2 p tr1 e1 fun i H'' Hq M' t ex kp => ?_⟩
    obtain ⟨a', ws, ea, hq', hd'⟩ := rd_t t (i1.mono ex) (.p _)
    cases ea
    have hl := dpa_len hd'
    refine ⟨fun hi => ⟨ws, hq', by omega⟩, fun hi => ?_⟩
    obtain ⟨x, hx, ix⟩ := dpa_get hd' (getD_of hi)
    refine ⟨⟨ws, x, hq', hx⟩, fun y Hp' hy => ?_⟩
    obtain ⟨rfl, hy⟩ := hy
    have := hy ws hq'
    rw [hx] at this
    cases this
    exact ⟨H'', t, Evl.Ex.refl _, ix⟩)
theorem itd_range {lo : Int} {n : Nat} {Hs : Hp} : Itd c (Itr lo n) n (fun i => dI (lo + (i : Nat))) Hs fun _ => True := fun i H'' Hq M' t ex _ =>
  ⟨fun hi => hi, fun hi => ⟨hi, fun x Hp' y => by
    obtain ⟨rfl, rfl⟩ := y
    exact ⟨H'', t, Evl.Ex.refl _, Dq.int _⟩⟩⟩
theorem i_range {tg : Expr} {pr pc : Pos} {Pi : Nat → (Nat → D) → (Mem → Prop) → Mem → Prop} (o : c.Ok N sc k) (hm : c.m.mg "range" = none) (hg : sc.names.lookup ("range" : Str) = some .globalImplicit) (hs1 : starEach [a] c.X.env = [(false, eval a c.X.env)])
    (h : Ea c Γ M [a] fun ds M1 => ∃ n : Int, ds = [dI n] ∧ (n < 2 ^ 62 ∧ -(2 ^ 62) ≤ n) ∧ Pi n.toNat (fun i => dI (i : Nat)) (fun _ => True) M1) : Ei c Γ M tg (.Call (.Name "range" pr) [a] [] pc) Pi :=
  fun σ H H1 R tr sl q => pi_to (pi_range1 (gl_of o hg) (by rw [o.mg]; exact hm) pa_sem hs1) (h σ H H1 _ tr sl fun ds M1 vs H' H2 p1 tr1 e1 i1 => by
    obtain ⟨n, rfl, ⟨hn, hn'⟩, p⟩ := p1
    obtain ⟨v, rfl⟩ : ∃ v, vs = [v] := by
      match vs, i1 with
      | [v], _ => exact ⟨v, rfl⟩
    have iv := i1.1.int
    subst iv
    refine ⟨n, rfl, hn', hn, q _ _ _ M1 _ H' H2 p tr1 e1 ?_⟩
    have := itd_range (c := c) (lo := 0) (n := n.toNat) (Hs := H')
    simpa using this)
theorem i_range2 {tg : Expr} {pr pc : Pos} {Pi : Nat → (Nat → D) → (Mem → Prop) → Mem → Prop} (o : c.Ok N sc k) (hm : c.m.mg "range" = none) (hg : sc.names.lookup ("range" : Str) = some .globalImplicit) (hs1 : starEach [a, b] c.X.env = [(false, eval a c.X.env), (false, eval b c.X.env)]) (hs2 : starEach [b] c.X.env = [(false, eval b c.X.env)])
    (h : Ea c Γ M [a, b] fun ds M1 => ∃ lo n : Int, ds = [dI lo, dI n] ∧ (n < 2 ^ 62 ∧ -(2 ^ 62) ≤ n) ∧ (lo < 2 ^ 62 ∧ -(2 ^ 62) ≤ lo) ∧ Pi (n - lo).toNat (fun i => dI (lo + (i : Nat))) (fun _ => True) M1) : Ei c Γ M tg (.Call (.Name "range" pr) [a, b] [] pc) Pi :=
  fun σ H H1 R tr sl q => pi_to (pi_range2 (gl_of o hg) (by rw [o.mg]; exact hm) pa_sem hs1 hs2) (h σ H H1 _ tr sl fun ds M1 vs H' H2 p1 tr1 e1 i1 => by
    obtain ⟨lo, n, rfl, hn, hl, p⟩ := p1
    obtain ⟨v, w, rfl⟩ : ∃ v w, vs = [v, w] := by
      match vs, i1 with
      | [v, w], _ => exact ⟨v, w, rfl⟩
    have iv := i1.1.int
    have iw := i1.2.1.int
    subst iv iw
    exact ⟨lo, n, rfl, ⟨hl.2, hl.1, hn.2, hn.1⟩, q _ _ _ M1 _ H' H2 p tr1 e1 itd_range⟩)
theorem s_while {t : Expr} {body : List Stmt} (o : c.Ok N sc k) (J : Nat → Gx → Mem → Prop) (h0 : ∃ m, J m Γ M)
    (h : ∀ m Γ' M', J m Γ' M' → Et c Γ' M' t fun z M2 => (z = true → Eb c Γ' M2 body ⟨fun Γ2 M3 => ∃ m', m' < m ∧ J m' Γ2 M3, rt_, nx_, fun Γ2 M3 => ∃ m', m' < m ∧ J m' Γ2 M3⟩) ∧ (z = false → nx_ Γ' M2)) :
    Es c Γ M (.While t body [] pos) ⟨nx_, rt_, bk_, ct_⟩ :=
  s_of (ps_while o.po pt_sem pss_sem) fun σ H H1 E tr sl r => by
    obtain ⟨m0, j0⟩ := h0
    refine ⟨fun m σ' Hp => ∃ Γ' M' H'', J m Γ' M' ∧ Tr c.G c.B H'' Hp M' ∧ Ex H H'' ∧ Slots c.G H'' σ' Γ', ⟨m0, Γ, M, H, j0, tr, Evl.Ex.refl H, sl⟩, fun m σ' Hp ⟨Γ', M', H'', j, t, ex, s'⟩ => ?_⟩
    refine h m Γ' M' j σ' H'' Hp _ t s' fun z M2 H3 H4 p2 t2 x2 => ?_
    cases z with
    | true =>
      rw [if_pos rfl]
      refine ⟨fun σ5 H6 => ∃ m' Γ5 M5 H5, m' < m ∧ J m' Γ5 M5 ∧ Tr c.G c.B H5 H6 M5 ∧ Ex H H5 ∧ Slots c.G H5 σ5 Γ5, fun σ5 H6 ⟨m', Γ5, M5, H5, hm, j5, t5, x5, s5⟩ => ⟨m', hm, Γ5, M5, H5, j5, t5, x5, s5⟩, ?_⟩
      exact p2.1 rfl σ' H3 H4 _ t2 (s'.mono x2) ⟨fun Γ5 M5 σ5 H5 H6 ⟨m', hm, j5⟩ t5 x5 s5 => ⟨m', Γ5, M5, H5, hm, j5, t5, (ex.trans x2).trans x5, s5⟩, fun d5 M5 v5 H5 H6 j5 t5 x5 s5 => r.rt d5 M5 v5 H5 H6 j5 t5 ((ex.trans x2).trans x5) s5,
        fun Γ5 M5 σ5 H5 H6 j5 t5 x5 s5 => r.nx Γ5 M5 σ5 H5 H6 j5 t5 ((ex.trans x2).trans x5) s5, fun Γ5 M5 σ5 H5 H6 ⟨m', hm, j5⟩ t5 x5 s5 => ⟨m', Γ5, M5, H5, hm, j5, t5, (ex.trans x2).trans x5, s5⟩⟩
    | false =>
      rw [if_neg Bool.false_ne_true]
      exact r.nx Γ' M2 σ' H3 H4 (p2.2 rfl) t2 (ex.trans x2) (s'.mono x2)
theorem g_pair {x y : Str} {i j : Nat} {d1 d2 : PyData} {q : Nat} {p1 p2 : Pos} {Pg : Gx → Mem → Prop} [hi : At N x i] [hj : At N y j] (o : c.Ok N sc k) (hl : L2.Loc sc x) (hf : sc.names.lookup x = some .local ∨ c.lvl = true) (hl2 : L2.Loc sc y) (hf2 : sc.names.lookup y = some .local ∨ c.lvl = true)
    (h1 : (assignEach [.Name y p2] c.X.env).map (·.2) = assign (.Name y p2) c.X.env :: (assignEach [] c.X.env).map (·.2)) (h2 : (assignEach [.Name x p1, .Name y p2] c.X.env).map (·.2) = assign (.Name x p1) c.X.env :: (assignEach [.Name y p2] c.X.env).map (·.2))
    (hn : (assignEach [.Name x p1, .Name y p2] c.X.env).length = 2) (hst : (assignEach [.Name x p1, .Name y p2] c.X.env).findIdx? (·.1) = none)
    (p : Pg ((Γ.set i (some (.p d1))).set j (some (.p d2))) M) : Eg c Γ M (.Tuple [.Name x p1, .Name y p2] q pos) (dT [d1, d2]) Pg := fun σ H H1 v Q tr sl iv qq => by
  have n1 : PG c.X (.Name x p1) (gName i) := pg_name (by rw [o.hN]; exact o.nd) (by rw [o.hN]; exact hi.at_) (loc_of o hl) (fn_of' o hf)
  have n2 : PG c.X (.Name y p2) (gName j) := pg_name (by rw [o.hN]; exact o.nd) (by rw [o.hN]; exact hj.at_) (loc_of o hl2) (fn_of' o hf2)
  refine pg_to (pg_tup o.calm (pgs_cons n1 (pgs_cons n2 pgs_nil h1) h2) hn hst) ?_
  obtain ⟨a, vs, rfl, hq, hd⟩ := iv.tup
  obtain ⟨v1, v2, rfl, i1, i2⟩ : ∃ v1 v2, vs = [v1, v2] ∧ Dq c.G.K H v1 d1 ∧ Dq c.G.K H v2 d2 := by
    cases hd with
    | cons a1 t =>
      cases t with
      | cons a2 t => cases t; exact ⟨_, _, rfl, a1, a2⟩
  rw [show c.X.K = c.G.K from o.K]
  exact ⟨a, _, rfl, Evl.ex_t tr.ok.ex hq, rfl, v1, [v2], rfl, v2, [], rfl, rfl, qq _ M _ H H1 p tr (Evl.Ex.refl H) ((Slots.set (d := .p d1) sl i i1).set (d := .p d2) j i2)⟩

abbrev Cd.blk (c : Cd) (X' : Cx) : Cd := ⟨c.m, X', c.B, fun _ _ _ _ => False, fun _ _ _ _ => False, false⟩
theorem ok_blk {scope : Scope} {s : Shared} {H : Hp} {C : Addr} {cl : List (Str × Addr)} {fp : List Addr} (o : c.Ok N sc k) : (c.blk (c.X.blk s H scope (compEnvC scope cl C c.X.env) fp)).Ok N (relS scope sc) k :=
  ⟨o.prog, o.ew, o.K, o.mg, o.base, o.hN, o.nd, (by rw [← o.esc]; rfl), o.calm, (fun z => nomatch z), o.room, PassesOwn.never, takes0, fun _ _ _ _ _ _ _ _ _ h => False.elim h⟩
theorem wipe_len0 (σ : L2.St) (vs : List Nat) : (L2.wipe σ vs).length = σ.length := wipe_length σ vs
theorem wipe_set {σ : L2.St} {x : Option V} : ∀ {vs : List Nat} {j : Nat}, j ∈ vs → L2.wipe (σ.set j x) vs = L2.wipe σ vs
  | [], j, h => by simp at h
  | v :: vs, j, h => by
    unfold L2.wipe
    by_cases hj : j ∈ vs
    · rw [wipe_set hj]
    · have e : j = v := by
        rcases List.mem_cons.mp h with e | e
        · exact e
        · exact absurd e hj
      subst e
      have : ∀ {vs : List Nat}, j ∉ vs → L2.wipe (σ.set j x) vs = (L2.wipe σ vs).set j x := by
        intro vs
        induction vs with
        | nil => intro _; rfl
        | cons u us ih =>
          intro hn
          simp only [List.mem_cons, not_or] at hn
          unfold L2.wipe
          rw [ih hn.2, List.set_comm _ _ hn.1]
      rw [this hj, List.set_set]
theorem wipe_wipe {σ : L2.St} : ∀ {vs ws : List Nat}, (∀ v ∈ vs, v ∈ ws) → L2.wipe (L2.wipe σ vs) ws = L2.wipe σ ws
  | [], _, _ => rfl
  | v :: vs, ws, h => by
    show L2.wipe ((L2.wipe σ vs).set v none) ws = _
    rw [wipe_set (h v List.mem_cons_self), wipe_wipe fun u hu => h u (List.mem_cons_of_mem _ hu)]
def Egv (c : Cd) (Γ : Gx) (M : Mem) (tg : Expr) (d : D) (vs : List Nat) (P : Gx → Mem → Prop) : Prop :=
  ∀ (σ : L2.St) (H H1 : Hp) (v : V) (Q : L2.St → Hp → Prop), Tr c.G c.B H H1 M → Slots c.G H σ Γ → Is c.G H v d → (∀ Γ' M' σ' H' H2, P Γ' M' → Tr c.G c.B H' H2 M' → Ex H H' → Slots c.G H' σ' Γ' → L2.wipe σ' vs = L2.wipe σ vs → Q σ' H2) → gSem c.X tg v σ H1 Q
theorem gv_name {x : Str} {i : Nat} {d : D} {vs : List Nat} {Pg : Gx → Mem → Prop} [hi : At N x i] (o : c.Ok N sc k) (hl : L2.Loc sc x) (hf : sc.names.lookup x = some .local ∨ c.lvl = true) (hv : i ∈ vs) (p : Pg (Γ.set i (some d)) M) : Egv c Γ M (.Name x pos) d vs Pg := fun σ H H1 v Q tr sl iv q =>
  pg_to (pg_name (i := i) (by rw [o.hN]; exact o.nd) (by rw [o.hN]; exact hi.at_) (loc_of o hl) (fn_of' o hf)) (q _ M _ H H1 p tr (Evl.Ex.refl H) (sl.set i iv) (wipe_set hv))
theorem gv_pair {x y : Str} {i j : Nat} {d1 d2 : PyData} {vs : List Nat} {q : Nat} {p1 p2 : Pos} {Pg : Gx → Mem → Prop} [hi : At N x i] [hj : At N y j] (o : c.Ok N sc k) (hl : L2.Loc sc x) (hf : sc.names.lookup x = some .local ∨ c.lvl = true) (hl2 : L2.Loc sc y) (hf2 : sc.names.lookup y = some .local ∨ c.lvl = true)
    (h1 : (assignEach [.Name y p2] c.X.env).map (·.2) = assign (.Name y p2) c.X.env :: (assignEach [] c.X.env).map (·.2)) (h2 : (assignEach [.Name x p1, .Name y p2] c.X.env).map (·.2) = assign (.Name x p1) c.X.env :: (assignEach [.Name y p2] c.X.env).map (·.2))
    (hn : (assignEach [.Name x p1, .Name y p2] c.X.env).length = 2) (hst : (assignEach [.Name x p1, .Name y p2] c.X.env).findIdx? (·.1) = none) (hv : i ∈ vs) (hw : j ∈ vs)
    (p : Pg ((Γ.set i (some (.p d1))).set j (some (.p d2))) M) : Egv c Γ M (.Tuple [.Name x p1, .Name y p2] q pos) (dT [d1, d2]) vs Pg := fun σ H H1 v Q tr sl iv qq => by
  have n1 : PG c.X (.Name x p1) (gName i) := pg_name (by rw [o.hN]; exact o.nd) (by rw [o.hN]; exact hi.at_) (loc_of o hl) (fn_of' o hf)
  have n2 : PG c.X (.Name y p2) (gName j) := pg_name (by rw [o.hN]; exact o.nd) (by rw [o.hN]; exact hj.at_) (loc_of o hl2) (fn_of' o hf2)
  refine pg_to (pg_tup o.calm (pgs_cons n1 (pgs_cons n2 pgs_nil h1) h2) hn hst) ?_
  obtain ⟨a, vs, rfl, hq, hd⟩ := iv.tup
  obtain ⟨v1, v2, rfl, i1, i2⟩ : ∃ v1 v2, vs = [v1, v2] ∧ Dq c.G.K H v1 d1 ∧ Dq c.G.K H v2 d2 := by
    cases hd with
    | cons a1 t =>
      cases t with
      | cons a2 t => cases t; exact ⟨_, _, rfl, a1, a2⟩
  rw [show c.X.K = c.G.K from o.K]
  exact ⟨a, _, rfl, Evl.ex_t tr.ok.ex hq, rfl, v1, [v2], rfl, v2, [], rfl, rfl, qq _ M _ H H1 p tr (Evl.Ex.refl H) ((Slots.set (d := .p d1) sl i i1).set (d := .p d2) j i2) (by rw [wipe_set hw, wipe_set hv])⟩
def tsSem (X : Cx) (ifs : List Expr) : TT := fun σ H Q => ∀ (pins : List (Addr × Obj)) (s : Shared), Inv X pins σ H s →
  wpAny (model X.prog X.w) X.A (forIn ifs true fun c r => if r = true then do let ok ← isTrue c X.env (eval c X.env); pure (ForInStep.yield ok) else pure (ForInStep.yield r)) (TP X pins σ Q) X.xe s
theorem pts_to {X : Cx} {ifs : List Expr} {t : TT} (h : PTs X ifs t) {σ : L2.St} {H : Hp} {Q : Bool → Hp → Prop} (q : t σ H Q) : tsSem X ifs σ H Q := fun pins s I => h.run pins s σ H Q I q
abbrev Ets (c : Cd) (Γ : Gx) (M : Mem) (ifs : List Expr) (P : Bool → Mem → Prop) : Prop := Tp c (tsSem c.X ifs) Γ M P
theorem ts_nil (p : T true M) : Ets c Γ M [] T := fun σ H H1 Q tr sl q => pts_to pts_nil (q true M H H1 p tr (Evl.Ex.refl H))
theorem ts_one (h : Et c Γ M e T) : Ets c Γ M [e] T := fun σ H H1 Q tr sl q => pts_to (pts_one pt_sem) (h σ H H1 Q tr sl q)

abbrev LcW (c : Cd) (N : List Str) (sc scope : Scope) (k : Nat) (Γ : Gx) (vs : List Nat) (tg : Expr) (ifs : List Expr) (elt : Expr) (P : D → Mem → Prop) : Nat → (Nat → D) → (Mem → Prop) → Mem → Prop := fun n f Kp M1 =>
  ∃ J : Nat → List PyData → Mem → Prop, J 0 [] M1 ∧ (∀ i acc M' a, i ≤ n → J i acc M' → Kp ((a, .lst acc) :: M')) ∧
      (∀ i acc M' a, i < n → J i acc M' → ∀ X1, (c.blk X1).Ok N (relS scope sc) k → Egv (c.blk X1) (wipeE Γ vs) ((a, .lst acc) :: M') tg (f i) vs fun Γ2 M2 => ∀ X2, (c.blk X2).Ok N (relS scope sc) k → Ets (c.blk X2) Γ2 M2 ifs fun b M3 =>
        (b = true → ∀ X3, (c.blk X3).Ok N (relS scope sc) k → Ee (c.blk X3) Γ2 M3 elt fun y M4 => ∃ p M5, y = .p p ∧ M4 = (a, .lst acc) :: M5 ∧ acc.length < 100000 ∧ J (i + 1) (acc ++ [p]) M5) ∧ (b = false → ∃ M5, M3 = (a, .lst acc) :: M5 ∧ J (i + 1) acc M5)) ∧
      (∀ acc M' a, J n acc M' → P (.own a) ((a, .lst acc) :: M'))
theorem tlc_of {elt tg iter : Expr} {ifs : List Expr} {scope : Scope} {vs : List Nat} {σ : L2.St} {H H1 : Hp} {Q : VK} (o : c.Ok N sc k) (tr : Tr c.G c.B H H1 M) (sl : Slots c.G H σ Γ)
    (h : Ei c Γ M tg iter (LcW c N sc scope k Γ vs tg ifs elt P))
    (q : ∀ d M' v H' H2, P d M' → Tr c.G c.B H' H2 M' → Ex H H' → Is c.G H' v d → Q v H2) :
    tLc (iSem c.X tg iter) (fun v σ H Q => ∀ s Hh C cl fp, gSem (c.X.blk s Hh scope (compEnvC scope cl C c.X.env) fp) tg v σ H Q) (fun σ H Q => ∀ s Hh C cl fp, tsSem (c.X.blk s Hh scope (compEnvC scope cl C c.X.env) fp) ifs σ H Q)
      (fun σ H Q => ∀ s Hh C cl fp, eSem (c.X.blk s Hh scope (compEnvC scope cl C c.X.env) fp) elt σ H Q) vs σ H1 Q := h σ H H1 _ tr sl fun n f Kp M1 It' H' H2 p1 tr1 e1 it a ha => by
  obtain ⟨Jv, j0, jk, js, jd⟩ := p1
  have t0 := tr1.ok.newOwn (o := .lst []) (c := .lst []) ha rfl ⟨[], upd_same, .nil⟩
  refine ⟨fun i m Hq => m = n - i ∧ i ≤ n ∧ ∃ acc M' H'', Jv i acc M' ∧ Tr c.G c.B H'' Hq ((a, .lst acc) :: M') ∧ Ex H' H'', ⟨n, by simp, Nat.zero_le _, [], M1, H', j0, tr1.trans t0, Evl.Ex.refl H'⟩, ?_⟩
  rintro i m Hq ⟨rfl, hi, acc, M', H'', j, t, ex⟩
  obtain ⟨hstop, hgo⟩ := it i H'' Hq _ t ex (jk i acc M' a hi j)
  by_cases hlt : i < n
  · obtain ⟨g1, g2⟩ := hgo hlt
    refine .inr ⟨g1, fun H6 => ∃ acc M5 H5, Jv (i + 1) acc M5 ∧ Tr c.G c.B H5 H6 ((a, .lst acc) :: M5) ∧ Ex H' H5, fun H6 p5 => ⟨n - (i + 1), by omega, rfl, hlt, p5⟩, fun x Hp' y s Hh C cl fp => ?_⟩
    obtain ⟨H3, t3, e3, i3⟩ := g2 x Hp' y
    refine js i acc M' a hlt j _ (ok_blk (scope := scope) (s := s) (H := Hh) (C := C) (cl := cl) (fp := fp) o) (L2.wipe σ vs) H3 Hp' x _ t3 ((sl.mono ((e1.trans ex).trans e3)).wipe vs) i3 fun Γ2 M2 σ2 H4 H5 p2 t2 x2 s2 hw => ⟨by rw [hw, wipe_wipe fun v hv => hv], fun s' Hh' C' cl' fp' => ?_⟩
    refine p2 _ (ok_blk (scope := scope) (s := s') (H := Hh') (C := C') (cl := cl') (fp := fp') o) σ2 H4 H5 _ t2 s2 fun b M3 H6 H7 p6 t6 x6 => ?_
    have e6 : Ex H' H6 := ((ex.trans e3).trans x2).trans x6
    cases b with
    | false =>
      rw [if_neg Bool.false_ne_true]
      obtain ⟨M5, rfl, j5⟩ := p6.2 rfl
      exact ⟨acc, M5, H6, j5, t6, e6⟩
    | true =>
      rw [if_pos rfl]
      intro s3 Hh3 C3 cl3 fp3
      refine p6.1 rfl _ (ok_blk (scope := scope) (s := s3) (H := Hh3) (C := C3) (cl := cl3) (fp := fp3) o) σ2 H6 H7 _ t6 (s2.mono x6) fun y M4 w H8 H9 p8 t8 x8 i8 => ?_
      obtain ⟨p, M5, rfl, rfl, hl, j5⟩ := p8
      have t8 : Tr c.G c.B H8 H9 ((a, .lst acc) :: M5) := t8
      obtain ⟨ws, h1, h2⟩ := t8.ok.cells a _ List.mem_cons_self
      refine ⟨ws, h1, Nat.lt_of_lt_of_le (by rw [dpa_len h2]; exact hl) (Evl.sz_of (Nat.le_refl _)), acc ++ [p], M5, H8, j5, ?_, e6.trans x8⟩
      have t9 := t8.ok.put (i := 0) (c' := .lst (acc ++ [p])) (H2 := upd H9 a (.lst (ws ++ [w]))) rfl rfl (fun b o hb hq => by rw [upd_ne (by simpa [fp1] using hb)]; exact hq) ⟨ws ++ [w], upd_same, dpa_append h2 (.cons i8 .nil)⟩
      exact t8.trans t9
  · have e : i = n := by omega
    subst e
    exact .inl ⟨hstop (Nat.le_refl _), q _ _ _ H'' Hq (jd acc M' a j) t (e1.trans ex) rfl⟩

theorem e_lc {elt tg iter : Expr} {ifs : List Expr} {scope : Scope} (own : List (Str × Nat)) (o : c.Ok N sc k) (ok : blkC N sc scope own = true) (hs : ∀ x, foldedSetIterable iter c.X.env x = pure x)
    (h : Ei c Γ M tg iter (LcW c N sc scope k Γ (own.map (·.2)) tg ifs elt P)) : Ee c Γ M (.ListComp elt [⟨tg, iter, ifs, 0⟩] scope pos) P := by
  refine e_of (pe_lc (own := own) o.calm (by rw [o.hN]; exact o.nd) pi_sem (by rw [o.hN, o.esc]; exact blkOk_by ok) (fun s H C cl fp => ?_) (fun s H C cl fp => ?_) (fun s H C cl fp => ?_) hs) fun σ H H1 Q tr sl q => tlc_of o tr sl h q
  · exact ⟨fun pins s σ H v u Q I r h => h _ _ _ _ _ pins s u I r⟩
  · exact ⟨fun pins s σ H Q I h => h _ _ _ _ _ pins s I⟩
  · exact ⟨fun pins s σ H Q I h => h _ _ _ _ _ pins s I⟩
theorem s_setLc {elt tg iter : Expr} {ifs : List Expr} {scope : Scope} {y : Str} {i : Nat} {py spos : Pos} [hi : At N y i] (own : List (Str × Nat)) (o : c.Ok N sc k) (hl : sc.names.lookup y = some .local) (ok : blkC N sc scope own = true) (hs : ∀ x, foldedSetIterable iter c.X.env x = pure x)
    (hk : sc.kind = .function) (hp : (py.line == pos.line) = true) (hy : (scope.names.any fun (n, k) => n == y && (k == .local || k == .cell)) = false)
    (h : Ei c Γ M tg iter (LcW c N sc scope k Γ (own.map (·.2)) tg ifs elt fun d M1 => nx_ (Γ.set i (some d)) M1)) : Es c Γ M (.Assign [.Name y py] (.ListComp elt [⟨tg, iter, ifs, 0⟩] scope pos) spos) ⟨nx_, rt_, bk_, ct_⟩ := by
  refine s_of (ps_setLc (i := i) (own := own) o.calm (by rw [o.hN]; exact o.nd) (by rw [o.hN]; exact hi.at_) (by rw [o.esc]; exact hl) (sw_true (by rw [o.esc]; exact hk) (by rw [o.esc]; exact hl) hp hy) pi_sem (by rw [o.hN, o.esc]; exact blkOk_by ok) (fun s H C cl fp => ?_) (fun s H C cl fp => ?_) (fun s H C cl fp => ?_) hs)
    fun σ H H1 E tr sl r => tlc_of (P := fun d M1 => nx_ (Γ.set i (some d)) M1) o tr sl h fun d M' v H' H2 p t ex iv => r.nx _ M' _ H' H2 p t ex ((sl.mono ex).set i iv)
  · exact ⟨fun pins s σ H v u Q I r h => h _ _ _ _ _ pins s u I r⟩
  · exact ⟨fun pins s σ H Q I h => h _ _ _ _ _ pins s I⟩
  · exact ⟨fun pins s σ H Q I h => h _ _ _ _ _ pins s I⟩
theorem e_frz (h : Ee c Γ M e fun d M1 => (∃ a ds i, d = .own a ∧ M1[i]? = some (a, .lst ds) ∧ P (dL ds) (M1.eraseIdx i))) : Ee c Γ M e P := fun σ H H1 Q tr sl q => h σ H H1 Q tr sl fun d M1 v H' H2 p t ex iv => by
  obtain ⟨a, ds, i, rfl, hi, p⟩ := p
  rw [show v = .ref a from iv]
  obtain ⟨vs, t2, d2⟩ := t.ok.freeze hi
  exact q _ _ _ _ _ p (t.trans t2) (ex.trans t2.ex) d2
end
end CR

namespace CR
open PySem PySem.Spec PyProof.Rows L2
open Evl (Ex)

section
variable {c : Cd} {N : List Str} {sc : Scope} {k : Nat} {Γ : Gx} {M : Mem} {P : D → Mem → Prop} {x y : D} {i j : Int} {s s' : Str}
theorem o2_of {r : R2} {z : V} {d : D} {H H1 : Hp} {v u : V} {Q : VK} (tr : Tr c.G c.B H H1 M) (p : P d M) (q : ∀ d M' z H' H2, P d M' → Tr c.G c.B H' H2 M' → Ex H H' → Is c.G H' z d → Q z H2) (i : Is c.G H z d) : Q z H1 := q d M z H H1 p tr (Evl.Ex.refl H) i

theorem o_I0 {g : Int → Int → V} {d : D} (hd : ∀ H, Is c.G H (g i j) d) (p : P d M) : O2 c (rI0 g) (dI i) (dI j) M P := fun H H1 v u Q tr iv iu q =>
  ⟨i, j, iv.int, iu.int, q _ M _ H H1 p tr (Evl.Ex.refl H) (hd H)⟩
theorem o_I {C : Int → Int → Prop} {g : Int → Int → V} {d : D} (hc : C i j) (hd : ∀ H, Is c.G H (g i j) d) (p : P d M) : O2 c (rI C g) (dI i) (dI j) M P := fun H H1 v u Q tr iv iu q =>
  ⟨i, j, iv.int, iu.int, hc, q _ M _ H H1 p tr (Evl.Ex.refl H) (hd H)⟩
theorem o_add (p : P (dI (i + j)) M) : O2 c (rI0 fun i j => .int (i + j)) (dI i) (dI j) M P := o_I0 (d := dI (i + j)) (fun _ => Dq.int _) p
theorem o_sub (p : P (dI (i - j)) M) : O2 c (rI0 fun i j => .int (i - j)) (dI i) (dI j) M P := o_I0 (d := dI (i - j)) (fun _ => Dq.int _) p
theorem o_mul (hc : CMul i j) (p : P (dI (i * j)) M) : O2 c (rI CMul fun i j => .int (i * j)) (dI i) (dI j) M P := o_I (d := dI (i * j)) hc (fun _ => Dq.int _) p
theorem o_mod (hc : 0 < j) (p : P (dI (i % j)) M) : O2 c (rI (fun _ j => 0 < j) fun i j => .int (i % j)) (dI i) (dI j) M P := o_I (d := dI (i % j)) hc (fun _ => Dq.int _) p
theorem o_fdiv (hc : CDivW i j) (p : P (dI (i / j)) M) : O2 c (rI CDivW fun i j => .int (i / j)) (dI i) (dI j) M P := o_I (d := dI (i / j)) hc (fun _ => Dq.int _) p
theorem o_pow (hc : CPow i j) (p : P (dI (i ^ j.toNat)) M) : O2 c (rI CPow fun i j => .int (i ^ j.toNat)) (dI i) (dI j) M P := o_I (d := dI (i ^ j.toNat)) hc (fun _ => Dq.int _) p
theorem o_lt (p : P (dB (decide (i < j))) M) : O2 c (rI0 fun i j => .bl (decide (i < j))) (dI i) (dI j) M P := o_I0 (d := dB (decide (i < j))) (fun _ => Dq.bl _) p
theorem o_le (p : P (dB (decide (i ≤ j))) M) : O2 c (rI0 fun i j => .bl (decide (i ≤ j))) (dI i) (dI j) M P := o_I0 (d := dB (decide (i ≤ j))) (fun _ => Dq.bl _) p
theorem o_gt (p : P (dB (decide (j < i))) M) : O2 c (rI0 fun i j => .bl (decide (j < i))) (dI i) (dI j) M P := o_I0 (d := dB (decide (j < i))) (fun _ => Dq.bl _) p
theorem o_ge (p : P (dB (decide (j ≤ i))) M) : O2 c (rI0 fun i j => .bl (decide (j ≤ i))) (dI i) (dI j) M P := o_I0 (d := dB (decide (j ≤ i))) (fun _ => Dq.bl _) p
theorem o_neg (p : P (dI (-i)) M) : O1 c (rU fun i => .int (-i)) (dI i) M P := fun H H1 v Q tr iv q => ⟨i, iv.int, q _ M _ H H1 p tr (Evl.Ex.refl H) (Dq.int _)⟩
theorem o_eqI (p : P (dB (decide (i = j))) M) : O2 c rEq (dI i) (dI j) M P := fun H H1 v u Q tr iv iu q => by
  rw [iv.int, iu.int]
  exact ⟨rfl, q _ M _ H H1 p tr (Evl.Ex.refl H) (by rw [show decide (V.int i = V.int j) = decide (i = j) by simp]; exact Dq.bl _)⟩
theorem o_neI (p : P (dB (!decide (i = j))) M) : O2 c rNe (dI i) (dI j) M P := fun H H1 v u Q tr iv iu q => by
  rw [iv.int, iu.int]
  exact ⟨rfl, q _ M _ H H1 p tr (Evl.Ex.refl H) (by rw [show decide (V.int i = V.int j) = decide (i = j) by simp]; exact Dq.bl _)⟩
theorem o_eqS (p : P (dB (decide (s = s'))) M) : O2 c rEq (dS s) (dS s') M P := fun H H1 v u Q tr iv iu q => by
  rw [iv.str, iu.str]
  exact ⟨rfl, q _ M _ H H1 p tr (Evl.Ex.refl H) (by rw [show decide (V.str s = V.str s') = decide (s = s') by simp]; exact Dq.bl _)⟩
theorem o_neS (p : P (dB (!decide (s = s'))) M) : O2 c rNe (dS s) (dS s') M P := fun H H1 v u Q tr iv iu q => by
  rw [iv.str, iu.str]
  exact ⟨rfl, q _ M _ H H1 p tr (Evl.Ex.refl H) (by rw [show decide (V.str s = V.str s') = decide (s = s') by simp]; exact Dq.bl _)⟩
theorem o_eqB {a b : Bool} (p : P (dB (decide (a = b))) M) : O2 c rEq (dB a) (dB b) M P := fun H H1 v u Q tr iv iu q => by
  rw [iv.bl, iu.bl]
  exact ⟨rfl, q _ M _ H H1 p tr (Evl.Ex.refl H) (by rw [show decide (V.bl a = V.bl b) = decide (a = b) by simp]; exact Dq.bl _)⟩
theorem o_neB {a b : Bool} (p : P (dB (!decide (a = b))) M) : O2 c rNe (dB a) (dB b) M P := fun H H1 v u Q tr iv iu q => by
  rw [iv.bl, iu.bl]
  exact ⟨rfl, q _ M _ H H1 p tr (Evl.Ex.refl H) (by rw [show decide (V.bl a = V.bl b) = decide (a = b) by simp]; exact Dq.bl _)⟩
theorem o_eqD {d e : PyData} (hx : Rdd M x d) (hy : Rdd M y e) (h1 : SeqAt.shaped d = true) (h2 : SeqAt.shaped e = true) (p : P (dB (PyData.eqv d e)) M) : O2 c (rEqD c.m.K) x y M P := fun H H1 v u Q tr iv iu q =>
  ⟨d, e, rd_dp tr iv hx, rd_dp tr iu hy, h1, h2, q _ M _ H H1 p tr (Evl.Ex.refl H) (Dq.bl _)⟩
theorem o_neD {d e : PyData} (hx : Rdd M x d) (hy : Rdd M y e) (h1 : SeqAt.shaped d = true) (h2 : SeqAt.shaped e = true) (p : P (dB (!PyData.eqv d e)) M) : O2 c (rNeD c.m.K) x y M P := fun H H1 v u Q tr iv iu q =>
  ⟨d, e, rd_dp tr iv hx, rd_dp tr iu hy, h1, h2, q _ M _ H H1 p tr (Evl.Ex.refl H) (Dq.bl _)⟩
theorem op_eqD' (o : c.Ok N sc k) : OpR c.X (compareOp .Eq) (rEqD c.m.K) := by rw [← o.K]; exact op_eqD o.room.units
theorem op_neD' (o : c.Ok N sc k) : OpR c.X (compareOp .NotEq) (rNeD c.m.K) := by rw [← o.K]; exact op_neD o.room.units
def isN : PyData → Bool
  | .none => true
  | _ => false
theorem isNone_v {H : Hp} {v : V} {d : PyData} (h : Dq c.G.K H v d) : decide (v = .non) = isN d := by
  cases h <;> simp [isN]
theorem o_isN {d : PyData} (p : P (dB (isN d)) M) : O2 c (fun x y H Q => y = .non ∧ Q (.bl (decide (x = .non))) H) (.p d) dN M P := fun H H1 v u Q tr iv iu q =>
  ⟨iu.non, q _ M _ H H1 p tr (Evl.Ex.refl H) (by rw [isNone_v (show Dq c.G.K H v d from iv)]; exact Dq.bl _)⟩
theorem o_notN {d : PyData} (p : P (dB (!isN d)) M) : O2 c (fun x y H Q => y = .non ∧ Q (.bl (!decide (x = .non))) H) (.p d) dN M P := fun H H1 v u Q tr iv iu q =>
  ⟨iu.non, q _ M _ H H1 p tr (Evl.Ex.refl H) (by rw [isNone_v (show Dq c.G.K H v d from iv)]; exact Dq.bl _)⟩

theorem is1 {H : Hp} {vs : List V} {d : D} (h : IsAll c.G H vs [d]) : ∃ v, vs = [v] ∧ Is c.G H v d := by
  match vs, h with
  | [v], h => exact ⟨v, rfl, h.1⟩
theorem is2 {H : Hp} {vs : List V} {d e : D} (h : IsAll c.G H vs [d, e]) : ∃ v w, vs = [v, w] ∧ Is c.G H v d ∧ Is c.G H w e := by
  match vs, h with
  | [v, w], h => exact ⟨v, w, rfl, h.1, h.2.1⟩
theorem ol_of {r : List V → Hp → VK → Prop} {xs : List D} {d : D} (p : P d M) (h : ∀ H H1 vs (Q : VK), Tr c.G c.B H H1 M → IsAll c.G H vs xs → (∀ z, Is c.G H z d → Q z H1) → r vs H1 Q) : OL c r xs M P := fun H H1 vs Q tr i q =>
  h H H1 vs Q tr i fun z iz => q d M z H H1 p tr (Evl.Ex.refl H) iz
theorem c_abs (p : P (dI (if i < 0 then -i else i)) M) : OL c (fun xs H Q => ∃ i, xs = [.int i] ∧ Q (.int (if i < 0 then -i else i)) H) [dI i] M P := ol_of p fun H H1 vs Q tr h q => by
  obtain ⟨v, rfl, iv⟩ := is1 h
  exact ⟨i, by rw [iv.int], q _ (Dq.int _)⟩
theorem c_max2 (p : P (dI (if j > i then j else i)) M) : OL c (fun xs H Q => ∃ i j, xs = [.int i, .int j] ∧ Q (.int (if j > i then j else i)) H) [dI i, dI j] M P := ol_of p fun H H1 vs Q tr h q => by
  obtain ⟨v, w, rfl, iv, iw⟩ := is2 h
  exact ⟨i, j, by rw [iv.int, iw.int], q _ (Dq.int _)⟩
theorem c_min2 (p : P (dI (if j < i then j else i)) M) : OL c (fun xs H Q => ∃ i j, xs = [.int i, .int j] ∧ Q (.int (if j < i then j else i)) H) [dI i, dI j] M P := ol_of p fun H H1 vs Q tr h q => by
  obtain ⟨v, w, rfl, iv, iw⟩ := is2 h
  exact ⟨i, j, by rw [iv.int, iw.int], q _ (Dq.int _)⟩
theorem c_intI (p : P (dI i) M) : OL c (fun xs H Q => (∃ i, xs = [.int i] ∧ Q (.int i) H) ∨ ∃ k, xs = [.bl k] ∧ Q (.int (if k then 1 else 0)) H) [dI i] M P := ol_of p fun H H1 vs Q tr h q => by
  obtain ⟨v, rfl, iv⟩ := is1 h
  exact .inl ⟨i, by rw [iv.int], q _ (Dq.int _)⟩
theorem c_intB {b : Bool} (p : P (dI (if b then 1 else 0)) M) : OL c (fun xs H Q => (∃ i, xs = [.int i] ∧ Q (.int i) H) ∨ ∃ k, xs = [.bl k] ∧ Q (.int (if k then 1 else 0)) H) [dB b] M P := ol_of p fun H H1 vs Q tr h q => by
  obtain ⟨v, rfl, iv⟩ := is1 h
  exact .inr ⟨b, by rw [iv.bl], q _ (Dq.int _)⟩
def semL (X : Cx) (f : Value) : List V → Hp → VK → Prop := fun xs H Q => ∀ (pins : List (Addr × Obj)) (s : Shared) (σ : L2.St) (us : List Value), Inv X pins σ H s → Vals xs us → wpAny (model X.prog X.w) X.A (call f us) (EP X pins σ Q) X.xe s
theorem call_sem {X : Cx} {f : Value} : CallR X f (semL X f) := fun pins s σ H xs us Q I r h => h pins s σ us I r
def rLen (c : Cd) : List V → Hp → VK → Prop := fun xs H Q => (∃ x n, xs = [x] ∧ LenV c.m.K x H n ∧ Q (.int n) H) ∨ semL c.X (.builtin "len") xs H Q
theorem call_len' (o : c.Ok N sc k) : CallR c.X (.builtin "len") (rLen c) := fun pins s σ H xs us Q I r h => by
  rcases h with h | h
  · rw [← o.K] at h; exact call_len pins s σ H xs us Q I r h
  · exact h pins s σ us I r
theorem c_lenL {ds : List PyData} (r : Rdd M x (.list ds)) (p : P (dI ds.length) M) : OL c (rLen c) [x] M P := ol_of p fun H H1 vs Q tr h q => by
  obtain ⟨v, rfl, iv⟩ := is1 h
  obtain ⟨a, ws, rfl, h1, h2⟩ := rd_l tr iv r
  exact .inl ⟨_, ws.length, rfl, .inl ⟨ws, h1, rfl⟩, q _ (by rw [dpa_len h2]; exact Dq.int _)⟩
theorem c_lenT {ds : List PyData} (p : P (dI ds.length) M) : OL c (rLen c) [dT ds] M P := ol_of p fun H H1 vs Q tr h q => by
  obtain ⟨v, rfl, iv⟩ := is1 h
  obtain ⟨a, ws, rfl, h1, h2⟩ := rd_t tr iv (.p _)
  exact .inl ⟨_, ws.length, rfl, .inr ⟨ws, h1, rfl⟩, q _ (by rw [dpa_len h2]; exact Dq.int _)⟩
theorem c_lenS (hs : s.length ≤ 100000) (p : P (dI s.length) M) : OL c (rLen c) [dS s] M P := ol_of p fun H H1 vs Q tr h q => by
  obtain ⟨v, rfl, iv⟩ := is1 h
  rw [iv.str]
  exact .inl ⟨_, s.length, rfl, ⟨Evl.sz_of hs, rfl⟩, q _ (Dq.int _)⟩

def tyN : PyData → String
  | .none => "NoneType"
  | .bool _ => "bool"
  | .int _ => "int"
  | .str _ => "str"
  | .list _ => "list"
  | .tuple _ => "tuple"
  | .dict _ => "dict"
theorem ty_of {K : PySem.W.Frag} {H : Hp} {v : V} {d : PyData} (h : L2.Dp K H v d) : TyX K H v (.type (tyN d)) := by
  cases h with
  | non => exact .base .non
  | bl b => exact .base (.bl b)
  | int i => exact .base (.int i)
  | str x => exact .base (.str x)
  | lst h1 h2 =>
    rcases h1 with (h1 | ⟨o, h1⟩) | ⟨o, its, n, h1, h3, _⟩
    · exact .base (.lst h1)
    · exact .base (.frz h1)
    · exact .kList h1 h3
  | tup h1 h2 =>
    rcases h1 with (h1 | ⟨o, h1⟩) | ⟨o, its, n, h1, h3, _⟩
    · exact .base (.tup h1)
    · exact .fTuple h1
    · exact .kTuple h1 h3
def isiB (a b : String) : Bool := (kitB a b).getD false
theorem kit_isi {K : PySem.W.Frag} (d : PyData) {b : String} (hb : b = "int" ∨ b = "bool" ∨ b = "tuple" ∨ b = "list" ∨ b = "str" ∨ b = "dict") : PySem.W.kitOne K (.type (tyN d)) (.type b) = some (isiB (tyN d) b) := by
  apply kit_ty
  unfold isiB
  rcases hb with rfl | rfl | rfl | rfl | rfl | rfl <;> cases d <;> (simp only [tyN]; decide +kernel)
def isI (d : PyData) (b : String) : Bool := tyN d == b || (tyN d == "bool" && b == "int")
theorem isiB_eq (d : PyData) {b : String} (hb : b = "int" ∨ b = "bool" ∨ b = "tuple" ∨ b = "list" ∨ b = "str" ∨ b = "dict") : isiB (tyN d) b = isI d b := by
  rcases hb with rfl | rfl | rfl | rfl | rfl | rfl <;> cases d <;> (simp only [tyN, isI]; decide +kernel)
theorem call_isi' (o : c.Ok N sc k) : CallR c.X (.builtin "isinstance") (rIsi c.m.K) := by rw [← o.K]; exact call_isi
theorem e_isi {a : Expr} {b : String} {nb : Str} {p1 p2 pos : Pos} (o : c.Ok N sc k) (hb : b = "int" ∨ b = "bool" ∨ b = "tuple" ∨ b = "list" ∨ b = "str" ∨ b = "dict") (hg : sc.names.lookup ("isinstance" : Str) = some .globalImplicit) (hm : c.m.mg "isinstance" = none)
    (hg2 : sc.names.lookup nb = some .globalImplicit) (hm2 : c.m.mg nb = none) (hv2 : bootBuiltins nb = some (.type b)) (hn : nb ≠ "__name__") (hx : (nb == ("__debug__" : Str)) = false)
    (he : starEach [a, .Name nb p2] c.X.env = (false, eval a c.X.env) :: starEach [.Name nb p2] c.X.env) (he2 : starEach [.Name nb p2] c.X.env = (false, eval (.Name nb p2) c.X.env) :: starEach [] c.X.env) (hpl : (backTo pos (starEach [.Name nb p2] c.X.env)).any (·.1) = false)
    (h : Ee c Γ M a fun d M1 => ∃ x : PyData, Rdd M1 d x ∧ P (dB (isI x b)) M1) : Ee c Γ M (.Call (.Name "isinstance" p1) [a, .Name nb p2] [] pos) P :=
  e_of (pe_callB (id := "isinstance") (call_isi' o) (gl_of o hg) (by rw [o.mg]; exact hm) (by decide +kernel) (pa_cons pe_sem (pa_cons (pe_bltn (v := .ty b) (gl_of o hg2) (by rw [o.mg]; exact hm2) hv2 rfl hn hx) pa_nil he2) he) (by decide) (by decide) he hpl) fun σ H H1 Q tr sl q => h σ H H1 _ tr sl fun d M1 v H' H2 p1 tr1 e1 i1 => by
    obtain ⟨x, r, p1⟩ := p1
    exact ⟨v, .ty b, _, _, isI x b, rfl, .ty b, ty_of (rd_dp tr1 i1 r), by rw [← isiB_eq x hb]; exact kit_isi x hb, q _ M1 _ H' H2 p1 tr1 e1 (Dq.bl _)⟩
theorem e_isiInt {a : Expr} {p1 p2 pos : Pos} (o : c.Ok N sc k) (hm : c.m.mg "isinstance" = none) (hm2 : c.m.mg "int" = none) (hg : sc.names.lookup ("isinstance" : Str) = some .globalImplicit)
    (hg2 : sc.names.lookup ("int" : Str) = some .globalImplicit) (he : starEach [a, .Name "int" p2] c.X.env = (false, eval a c.X.env) :: starEach [.Name "int" p2] c.X.env) (he2 : starEach [.Name "int" p2] c.X.env = (false, eval (.Name "int" p2) c.X.env) :: starEach [] c.X.env) (hpl : (backTo pos (starEach [.Name "int" p2] c.X.env)).any (·.1) = false)
    (h : Ee c Γ M a fun d M1 => ∃ x : PyData, Rdd M1 d x ∧ P (dB (isI x "int")) M1) : Ee c Γ M (.Call (.Name "isinstance" p1) [a, .Name "int" p2] [] pos) P :=
  e_isi o (by decide) hg hm hg2 hm2 (by decide +kernel) (by decide) (by decide) he he2 hpl h
theorem e_isiBool {a : Expr} {p1 p2 pos : Pos} (o : c.Ok N sc k) (hm : c.m.mg "isinstance" = none) (hm2 : c.m.mg "bool" = none) (hg : sc.names.lookup ("isinstance" : Str) = some .globalImplicit)
    (hg2 : sc.names.lookup ("bool" : Str) = some .globalImplicit) (he : starEach [a, .Name "bool" p2] c.X.env = (false, eval a c.X.env) :: starEach [.Name "bool" p2] c.X.env) (he2 : starEach [.Name "bool" p2] c.X.env = (false, eval (.Name "bool" p2) c.X.env) :: starEach [] c.X.env) (hpl : (backTo pos (starEach [.Name "bool" p2] c.X.env)).any (·.1) = false)
    (h : Ee c Γ M a fun d M1 => ∃ x : PyData, Rdd M1 d x ∧ P (dB (isI x "bool")) M1) : Ee c Γ M (.Call (.Name "isinstance" p1) [a, .Name "bool" p2] [] pos) P :=
  e_isi o (by decide) hg hm hg2 hm2 (by decide +kernel) (by decide) (by decide) he he2 hpl h
theorem e_isiTuple {a : Expr} {p1 p2 pos : Pos} (o : c.Ok N sc k) (hm : c.m.mg "isinstance" = none) (hm2 : c.m.mg "tuple" = none) (hg : sc.names.lookup ("isinstance" : Str) = some .globalImplicit)
    (hg2 : sc.names.lookup ("tuple" : Str) = some .globalImplicit) (he : starEach [a, .Name "tuple" p2] c.X.env = (false, eval a c.X.env) :: starEach [.Name "tuple" p2] c.X.env) (he2 : starEach [.Name "tuple" p2] c.X.env = (false, eval (.Name "tuple" p2) c.X.env) :: starEach [] c.X.env) (hpl : (backTo pos (starEach [.Name "tuple" p2] c.X.env)).any (·.1) = false)
    (h : Ee c Γ M a fun d M1 => ∃ x : PyData, Rdd M1 d x ∧ P (dB (isI x "tuple")) M1) : Ee c Γ M (.Call (.Name "isinstance" p1) [a, .Name "tuple" p2] [] pos) P :=
  e_isi o (by decide) hg hm hg2 hm2 (by decide +kernel) (by decide) (by decide) he he2 hpl h
theorem e_isiList {a : Expr} {p1 p2 pos : Pos} (o : c.Ok N sc k) (hm : c.m.mg "isinstance" = none) (hm2 : c.m.mg "list" = none) (hg : sc.names.lookup ("isinstance" : Str) = some .globalImplicit)
    (hg2 : sc.names.lookup ("list" : Str) = some .globalImplicit) (he : starEach [a, .Name "list" p2] c.X.env = (false, eval a c.X.env) :: starEach [.Name "list" p2] c.X.env) (he2 : starEach [.Name "list" p2] c.X.env = (false, eval (.Name "list" p2) c.X.env) :: starEach [] c.X.env) (hpl : (backTo pos (starEach [.Name "list" p2] c.X.env)).any (·.1) = false)
    (h : Ee c Γ M a fun d M1 => ∃ x : PyData, Rdd M1 d x ∧ P (dB (isI x "list")) M1) : Ee c Γ M (.Call (.Name "isinstance" p1) [a, .Name "list" p2] [] pos) P :=
  e_isi o (by decide) hg hm hg2 hm2 (by decide +kernel) (by decide) (by decide) he he2 hpl h
theorem e_isiStr {a : Expr} {p1 p2 pos : Pos} (o : c.Ok N sc k) (hm : c.m.mg "isinstance" = none) (hm2 : c.m.mg "str" = none) (hg : sc.names.lookup ("isinstance" : Str) = some .globalImplicit)
    (hg2 : sc.names.lookup ("str" : Str) = some .globalImplicit) (he : starEach [a, .Name "str" p2] c.X.env = (false, eval a c.X.env) :: starEach [.Name "str" p2] c.X.env) (he2 : starEach [.Name "str" p2] c.X.env = (false, eval (.Name "str" p2) c.X.env) :: starEach [] c.X.env) (hpl : (backTo pos (starEach [.Name "str" p2] c.X.env)).any (·.1) = false)
    (h : Ee c Γ M a fun d M1 => ∃ x : PyData, Rdd M1 d x ∧ P (dB (isI x "str")) M1) : Ee c Γ M (.Call (.Name "isinstance" p1) [a, .Name "str" p2] [] pos) P :=
  e_isi o (by decide) hg hm hg2 hm2 (by decide +kernel) (by decide) (by decide) he he2 hpl h
theorem e_isiDict {a : Expr} {p1 p2 pos : Pos} (o : c.Ok N sc k) (hm : c.m.mg "isinstance" = none) (hm2 : c.m.mg "dict" = none) (hg : sc.names.lookup ("isinstance" : Str) = some .globalImplicit)
    (hg2 : sc.names.lookup ("dict" : Str) = some .globalImplicit) (he : starEach [a, .Name "dict" p2] c.X.env = (false, eval a c.X.env) :: starEach [.Name "dict" p2] c.X.env) (he2 : starEach [.Name "dict" p2] c.X.env = (false, eval (.Name "dict" p2) c.X.env) :: starEach [] c.X.env) (hpl : (backTo pos (starEach [.Name "dict" p2] c.X.env)).any (·.1) = false)
    (h : Ee c Γ M a fun d M1 => ∃ x : PyData, Rdd M1 d x ∧ P (dB (isI x "dict")) M1) : Ee c Γ M (.Call (.Name "isinstance" p1) [a, .Name "dict" p2] [] pos) P :=
  e_isi o (by decide) hg hm hg2 hm2 (by decide +kernel) (by decide) (by decide) he he2 hpl h
end
end CR

namespace CR
open PySem PySem.Spec PyProof.Rows L2
open Evl (Ex)

def lkD (kvs : List (Key × D)) (k : Key) : Option D := (kvs.find? fun kv => decide (kv.1 = k)).map (·.2)
def putD (kvs : List (Key × D)) (k : Key) (v : D) : List (Key × D) := if (kvs.any fun kv => decide (kv.1 = k)) = true then kvs.map (fun kv => if kv.1 = k then (kv.1, v) else kv) else kvs ++ [(k, v)]
abbrev PKd (G : Gm) (H : Hp) := Paired (fun (p : Key × V) (q : Key × D) => p.1 = q.1 ∧ Is G H p.2 q.2)
theorem pk_find {G : Gm} {H : Hp} {k : Key} : ∀ {kvs' : List (Key × V)} {kvs : List (Key × D)}, PKd G H kvs' kvs → (∀ d, lkD kvs k = some d → ∃ v, valV kvs' k = some v ∧ Is G H v d) ∧ (lkD kvs k = none → valV kvs' k = none)
  | _, _, .nil => ⟨fun _ h => (nomatch h), fun _ => rfl⟩
  | (a, v) :: r', (b, d) :: r, .cons e t => by
    obtain ⟨e1, e2⟩ := e
    simp only at e1 e2
    subst e1
    obtain ⟨i1, i2⟩ := pk_find (k := k) t
    unfold lkD valV at *
    by_cases h : a = k
    · simp only [List.find?_cons, decide_eq_true h]
      exact ⟨fun d h => by cases h; exact ⟨v, rfl, e2⟩, fun h => (nomatch h)⟩
    · simp only [List.find?_cons, decide_eq_false h]
      exact ⟨i1, i2⟩
theorem pk_len {G : Gm} {H : Hp} : ∀ {kvs' : List (Key × V)} {kvs : List (Key × D)}, PKd G H kvs' kvs → kvs'.length = kvs.length
  | _, _, .nil => rfl
  | _ :: _, _ :: _, .cons _ t => congrArg (· + 1) (pk_len t)
theorem pk_any {G : Gm} {H : Hp} {k : Key} : ∀ {kvs' : List (Key × V)} {kvs : List (Key × D)}, PKd G H kvs' kvs → (kvs'.any fun kv => decide (kv.1 = k)) = (kvs.any fun kv => decide (kv.1 = k))
  | _, _, .nil => rfl
  | _ :: _, _ :: _, .cons e t => by rw [List.any_cons, List.any_cons, pk_any t, e.1]
theorem pk_map {G : Gm} {H : Hp} {k : Key} {v : V} {d : D} (i : Is G H v d) : ∀ {kvs' : List (Key × V)} {kvs : List (Key × D)}, PKd G H kvs' kvs → PKd G H (kvs'.map fun kv => if kv.1 = k then (kv.1, v) else kv) (kvs.map fun kv => if kv.1 = k then (kv.1, d) else kv)
  | _, _, .nil => .nil
  | (a, x) :: r', (b, y) :: r, .cons e t => by
    obtain ⟨e1, e2⟩ := e
    simp only at e1 e2
    subst e1
    rw [List.map_cons, List.map_cons]
    refine .cons ?_ (pk_map i t)
    by_cases h : a = k
    · simp only [h, if_true]; exact ⟨trivial, i⟩
    · simp only [h, if_false]; exact ⟨trivial, e2⟩
theorem pk_app {G : Gm} {H : Hp} {k : Key} {v : V} {d : D} (i : Is G H v d) : ∀ {kvs' : List (Key × V)} {kvs : List (Key × D)}, PKd G H kvs' kvs → PKd G H (kvs' ++ [(k, v)]) (kvs ++ [(k, d)])
  | _, _, .nil => .cons ⟨rfl, i⟩ .nil
  | _ :: _, _ :: _, .cons e t => .cons e (pk_app i t)
theorem pk_put {G : Gm} {H : Hp} {k : Key} {v : V} {d : D} (i : Is G H v d) {kvs' : List (Key × V)} {kvs : List (Key × D)} (h : PKd G H kvs' kvs) : PKd G H (putK kvs' k v) (putD kvs k d) := by
  unfold putK putD
  rw [pk_any h]
  split
  · exact pk_map i h
  · exact pk_app i h
theorem PSet.or2 {X : Cx} {t t' : TSet} (h : PSet X t) (h' : PSet X t') : PSet X (fun o i v H Q => t o i v H Q ∨ t' o i v H Q) := fun pins s σ H o i v ov iv u Q I ro ri rv q => by
  rcases q with q | q
  · exact h pins s σ H o i v ov iv u Q I ro ri rv q
  · exact h' pins s σ H o i v ov iv u Q I ro ri rv q
def kD : Key → D
  | .inl i => dI i
  | .inr s => dS s
theorem kD_v {G : Gm} {H : Hp} {v : V} {k : Key} (h : Is G H v (kD k)) : v = kV k := by
  cases k with
  | inl i => exact Is.int h
  | inr s => exact Is.str h
section
variable {c : Cd} {N : List Str} {sc : Scope} {k : Nat} {Γ : Gx} {M : Mem} {P : D → Mem → Prop} {T : Bool → Mem → Prop} {D' : De} {nx_ : Gx → Mem → Prop} {rt_ : D → Mem → Prop} {bk_ ct_ : Gx → Mem → Prop} {o e a b : Expr} {es : List Expr} {pos apos cpos : Pos}

theorem mem_get {M : Mem} {a : Addr} {x : Cell} (h : (a, x) ∈ M) : ∃ i : Nat, M[i]? = some (a, x) := List.getElem?_of_mem h
def putM (a : Addr) (x : Cell) : Mem → Mem
  | [] => []
  | p :: r => open Classical in if p.1 = a then (a, x) :: r else p :: putM a x r
theorem put_own {G : Gm} {B : Bs} {H H1 : Hp} {i : Nat} {a : Addr} {ds es : List PyData} {vs ws : List V} (t : Tr G B H H1 M) (hi : M[i]? = some (a, .lst ds)) (hw : DqAll G.K H ws es) :
    Tr G B H (upd H1 a (.lst ws)) (M.set i (a, .lst es)) :=
  t.trans (t.ok.put (i := i) (c' := .lst es) (H2 := upd H1 a (.lst ws)) hi rfl (fun b o hb hq => by rw [upd_ne (by simpa [fp1] using hb)]; exact hq) ⟨ws, upd_same, hw⟩)
theorem own_ty {G : Gm} {B : Bs} {H H1 : Hp} {a : Addr} {ds : List PyData} (t : Tr G B H H1 M) (h : (a, Cell.lst ds) ∈ M) : tyV G.K "list" (.ref a) H1 := by
  obtain ⟨vs, h1, h2⟩ := t.ok.cells _ _ h
  exact .inl ⟨rfl, vs, SqL.of h1⟩
theorem a_one {R : D → Mem → Prop} (hs : starEach [e] c.X.env = (false, eval e c.X.env) :: starEach [] c.X.env) (h : Ee c Γ M e R) : Ea c Γ M [e] fun ds M2 => ∃ y, ds = [y] ∧ R y M2 :=
  a_cons hs (h.imp fun y M2 r => a_nil ⟨y, rfl, r⟩)
theorem e_append {ok : c.Ok N sc k} (hbase : attributeBase o "append" c.X.env (eval o c.X.env) = eval o c.X.env)
    (hfew : ((backTo cpos (starEach [e] c.X.env)).all (fun x => !x.1) && (backToKw cpos (keywordEach [] c.X.env)).all (fun x => x.1.isSome) && decide (([e] : List Expr).length + ([] : List Keyword).length + (if ([] : List Keyword).isEmpty then 0 else 1) < 30)) = true)
    (hline : (apos.endLine == cpos.line) = true) (hs : starEach [e] c.X.env = (false, eval e c.X.env) :: starEach [] c.X.env) (hp : (backTo cpos (starEach [] c.X.env)).any (·.1) = false)
    (h : Ee c Γ M o fun d M1 => ∃ a ds0, d = .own a ∧ (a, Cell.lst ds0) ∈ M1 ∧ Ee c Γ M1 e fun y M2 => ∃ i ds p, M2[i]? = some (a, .lst ds) ∧ y = .p p ∧ ds.length < 100000 ∧ P dN (M2.set i (a, .lst (ds ++ [p])))) :
    Ee c Γ M (.Call (.Attribute o "append" apos) [e] [] cpos) P :=
  e_of (pe_bm PySem.F.plainAttrs_list PySem.F.slot_list_append PySem.F.type_list_append mt_append pe_sem pa_sem hbase hfew hline hs hp) fun σ H H1 Q tr sl q => h σ H H1 _ tr sl fun d M1 v H' H2 p1 tr1 e1 i1 => by
    obtain ⟨a, ds0, rfl, hm, p1⟩ := p1
    rw [show v = .ref a from i1, show c.X.K = c.G.K from ok.K]
    refine ⟨own_ty tr1 hm, (a_one hs p1) σ H' H2 _ tr1 (sl.mono e1) fun xs M2 ys H3 H4 p3 t3 e3 i3 => ?_⟩
    obtain ⟨y, rfl, i, ds, p, hi, rfl, hl, pp⟩ := p3
    obtain ⟨w, rfl, iw⟩ := is1 i3
    obtain ⟨ws, h1, h2⟩ := t3.ok.cells _ _ (List.mem_of_getElem? hi)
    refine ⟨a, ws, w, rfl, rfl, h1, Evl.sz_lt (by rw [dpa_len h2]; exact hl), q _ _ _ _ _ pp (put_own (vs := ws) t3 hi (dpa_append h2 (.cons iw .nil))) (e1.trans e3) Dq.non⟩
theorem e_reverse {ok : c.Ok N sc k} (hbase : attributeBase o "reverse" c.X.env (eval o c.X.env) = eval o c.X.env) (hline : (apos.endLine == cpos.line) = true)
    (h : Ee c Γ M o fun d M1 => ∃ a i ds, d = .own a ∧ M1[i]? = some (a, .lst ds) ∧ P dN (M1.set i (a, .lst ds.reverse))) : Ee c Γ M (.Call (.Attribute o "reverse" apos) [] [] cpos) P :=
  e_of (pe_bm0 PySem.F.plainAttrs_list PySem.F.slot_list_reverse PySem.F.type_list_reverse mt_reverse pe_sem hbase hline) fun σ H H1 Q tr sl q => h σ H H1 _ tr sl fun d M1 v H' H2 p1 tr1 e1 i1 => by
    obtain ⟨a, i, ds, rfl, hi, p1⟩ := p1
    rw [show v = .ref a from i1, show c.X.K = c.G.K from ok.K]
    obtain ⟨ws, h1, h2⟩ := tr1.ok.cells _ _ (List.mem_of_getElem? hi)
    exact ⟨own_ty tr1 (List.mem_of_getElem? hi), a, ws, rfl, rfl, h1, q _ _ _ _ _ p1 (put_own (vs := ws) tr1 hi (dpa_reverse h2)) e1 Dq.non⟩
theorem e_pop0 {ok : c.Ok N sc k} (hbase : attributeBase o "pop" c.X.env (eval o c.X.env) = eval o c.X.env) (hline : (apos.endLine == cpos.line) = true)
    (h : Ee c Γ M o fun d M1 => ∃ a i ds y, d = .own a ∧ M1[i]? = some (a, .lst (ds ++ [y])) ∧ P (.p y) (M1.set i (a, .lst ds))) : Ee c Γ M (.Call (.Attribute o "pop" apos) [] [] cpos) P :=
  e_of (pe_bm0 PySem.F.plainAttrs_list PySem.F.slot_list_pop PySem.F.type_list_pop mt_pop pe_sem hbase hline) fun σ H H1 Q tr sl q => h σ H H1 _ tr sl fun d M1 v H' H2 p1 tr1 e1 i1 => by
    obtain ⟨a, i, ds, y, rfl, hi, p1⟩ := p1
    rw [show v = .ref a from i1, show c.X.K = c.G.K from ok.K]
    obtain ⟨ws, h1, h2⟩ := tr1.ok.cells _ _ (List.mem_of_getElem? hi)
    have hl := dpa_len h2
    obtain ⟨w, hw, iw⟩ := dpa_get h2 (show (ds ++ [y])[ds.length]? = some y by simp)
    refine ⟨own_ty tr1 (List.mem_of_getElem? hi), a, ws, w, rfl, rfl, h1, by rw [hl]; simpa using hw, q _ _ _ _ _ p1 (put_own (vs := ws) tr1 hi ?_) e1 iw⟩
    have := dpa_take ds.length h2
    rw [List.take_left] at this
    rw [List.dropLast_eq_take, hl]
    simpa using this
theorem e_popAt {ok : c.Ok N sc k} (hbase : attributeBase o "pop" c.X.env (eval o c.X.env) = eval o c.X.env)
    (hfew : ((backTo cpos (starEach [e] c.X.env)).all (fun x => !x.1) && (backToKw cpos (keywordEach [] c.X.env)).all (fun x => x.1.isSome) && decide (([e] : List Expr).length + ([] : List Keyword).length + (if ([] : List Keyword).isEmpty then 0 else 1) < 30)) = true)
    (hline : (apos.endLine == cpos.line) = true) (hs : starEach [e] c.X.env = (false, eval e c.X.env) :: starEach [] c.X.env) (hp : (backTo cpos (starEach [] c.X.env)).any (·.1) = false)
    (h : Ee c Γ M o fun d M1 => ∃ a ds0, d = .own a ∧ (a, Cell.lst ds0) ∈ M1 ∧ Ee c Γ M1 e fun y M2 => ∃ i ds j p, M2[i]? = some (a, .lst ds) ∧ y = dI (j : Nat) ∧ j < 100000 ∧ ds[j]? = some p ∧ P (.p p) (M2.set i (a, .lst (ds.eraseIdx j)))) :
    Ee c Γ M (.Call (.Attribute o "pop" apos) [e] [] cpos) P :=
  e_of (pe_bm PySem.F.plainAttrs_list PySem.F.slot_list_pop PySem.F.type_list_pop mt_popAt pe_sem pa_sem hbase hfew hline hs hp) fun σ H H1 Q tr sl q => h σ H H1 _ tr sl fun d M1 v H' H2 p1 tr1 e1 i1 => by
    obtain ⟨a, ds0, rfl, hm, p1⟩ := p1
    rw [show v = .ref a from i1, show c.X.K = c.G.K from ok.K]
    refine ⟨own_ty tr1 hm, (a_one hs p1) σ H' H2 _ tr1 (sl.mono e1) fun xs M2 ys H3 H4 p3 t3 e3 i3 => ?_⟩
    obtain ⟨y, rfl, i, ds, j, p, hi, rfl, hj, hg, pp⟩ := p3
    obtain ⟨w, rfl, iw⟩ := is1 i3
    obtain ⟨ws, h1, h2⟩ := t3.ok.cells _ _ (List.mem_of_getElem? hi)
    obtain ⟨z, hz, iz⟩ := dpa_get h2 hg
    have hlt : j < ds.length := (List.getElem?_eq_some_iff.mp hg).1
    have hl := dpa_len h2
    rw [iw.int]
    refine ⟨a, ws, (j : Int), j, z, rfl, rfl, h1, by omega, by omega, ?_, hz, q _ _ _ _ _ pp (put_own (vs := ws) t3 hi (dpa_erase j h2)) (e1.trans e3) iz⟩
    have := PySem.StrLaws.seqIndex_nonneg (i := (j : Int)) (n := ws.length) (by omega) (by omega)
    simpa using this
theorem e_extend {ok : c.Ok N sc k} (hbase : attributeBase o "extend" c.X.env (eval o c.X.env) = eval o c.X.env)
    (hfew : ((backTo cpos (starEach [e] c.X.env)).all (fun x => !x.1) && (backToKw cpos (keywordEach [] c.X.env)).all (fun x => x.1.isSome) && decide (([e] : List Expr).length + ([] : List Keyword).length + (if ([] : List Keyword).isEmpty then 0 else 1) < 30)) = true)
    (hline : (apos.endLine == cpos.line) = true) (hs : starEach [e] c.X.env = (false, eval e c.X.env) :: starEach [] c.X.env) (hp : (backTo cpos (starEach [] c.X.env)).any (·.1) = false)
    (h : Ee c Γ M o fun d M1 => ∃ a ds0, d = .own a ∧ (a, Cell.lst ds0) ∈ M1 ∧ Ee c Γ M1 e fun y M2 => ∃ (i : Nat) (ds zs : List PyData), M2[i]? = some (a, Cell.lst ds) ∧ Rdx M2 y zs ∧ ds.length + zs.length < 100000 ∧ P dN (M2.set i (a, .lst (ds ++ zs)))) :
    Ee c Γ M (.Call (.Attribute o "extend" apos) [e] [] cpos) P :=
  e_of (pe_bm PySem.F.plainAttrs_list PySem.F.slot_list_extend PySem.F.type_list_extend mt_extend pe_sem pa_sem hbase hfew hline hs hp) fun σ H H1 Q tr sl q => h σ H H1 _ tr sl fun d M1 v H' H2 p1 tr1 e1 i1 => by
    obtain ⟨a, ds0, rfl, hm, p1⟩ := p1
    rw [show v = .ref a from i1, show c.X.K = c.G.K from ok.K]
    refine ⟨own_ty tr1 hm, (a_one hs p1) σ H' H2 _ tr1 (sl.mono e1) fun xs M2 ys H3 H4 p3 t3 e3 i3 => ?_⟩
    obtain ⟨y, rfl, i, ds, zs', hi, hj, hl, pp⟩ := p3
    obtain ⟨w, rfl, iw⟩ := is1 i3
    obtain ⟨b, zs, rfl, h3, h4⟩ := rx_l t3 iw hj
    obtain ⟨ws, h1, h2⟩ := t3.ok.cells _ _ (List.mem_of_getElem? hi)
    exact ⟨a, b, ws, zs, rfl, rfl, h1, h3, Evl.sz_of (by rw [dpa_len h2, dpa_len h4]; omega), q _ _ _ _ _ pp (put_own (vs := ws) t3 hi (dpa_append h2 h4)) (e1.trans e3) Dq.non⟩
theorem o_cat {x y : D} {ds zs : List PyData} (hx : Rdx M x ds) (hy : Rdx M y zs) (hl : ds.length + zs.length < 100000) (p : ∀ a, P (.own a) ((a, .lst (ds ++ zs)) :: M)) : O2 c rCat x y M P := fun H H1 v u Q tr iv iu q => by
  obtain ⟨a, vs, rfl, h1, h2⟩ := rx_l tr iv hx
  obtain ⟨b, ws, rfl, h3, h4⟩ := rx_l tr iu hy
  refine ⟨a, b, vs, ws, rfl, rfl, h1, h3, Evl.sz_of (by rw [dpa_len h2, dpa_len h4]; omega), fun l hl => ?_⟩
  have t2 := tr.ok.newOwn (o := .lst (vs ++ ws)) (c := .lst (ds ++ zs)) hl rfl ⟨_, upd_same, dpa_append h2 h4⟩
  exact q _ _ _ _ _ (p l) (tr.trans t2) t2.ex rfl
theorem o_rep {x : D} {n : Int} {ds : List PyData} (hx : Rdx M x ds) (hn : -100000 ≤ n ∧ n ≤ 100000) (hl : ds.length * n.toNat < 100000) (p : ∀ a, P (.own a) ((a, .lst (List.replicate n.toNat ds).flatten) :: M)) : O2 c rRep x (dI n) M P := fun H H1 v u Q tr iv iu q => by
  obtain ⟨a, vs, rfl, h1, h2⟩ := rx_l tr iv hx
  refine ⟨a, n, vs, rfl, iu.int, h1, by omega, by omega, Evl.sz_of (by rw [dpa_len h2]; omega), fun l hl => ?_⟩
  have rep : ∀ m : Nat, DqAll c.G.K H (List.replicate m vs).flatten (List.replicate m ds).flatten := fun m => by
    induction m with
    | zero => exact .nil
    | succ m ih => simp only [List.replicate_succ, List.flatten_cons]; exact dpa_append h2 ih
  have t2 := tr.ok.newOwn (o := .lst (List.replicate n.toNat vs).flatten) (c := .lst (List.replicate n.toNat ds).flatten) hl rfl ⟨_, upd_same, rep _⟩
  exact q _ _ _ _ _ (p l) (tr.trans t2) t2.ex rfl
theorem ix_list' (ok : c.Ok N sc k) : IxR c.X (rIxL c.m.K) := by rw [← ok.K]; exact ix_list
theorem ix_tup' (ok : c.Ok N sc k) : IxR c.X (rIxT c.m.K) := by rw [← ok.K]; exact ix_tup
theorem e_ix {r : R2} (hr : IxR c.X r) (hs : PlainIx b) (h : Ee c Γ M a fun x M1 => Ee c Γ M1 b fun y M2 => O2 c r x y M2 P) : Ee c Γ M (.Subscript a b pos) P := e_of (pe_ix hr pe_sem pe_sem hs) (ep_op h)
theorem atI_of {α : Type} {xs : List α} {i : Int} {j : Nat} {v : α} (hx : xs[j]? = some v) (hi : i = (j : Int) ∨ i = (j : Int) - xs.length) : atI xs i = some v := by
  have hlt : j < xs.length := (List.getElem?_eq_some_iff.mp hx).1
  rcases hi with rfl | rfl
  · exact atI_nat hx
  · have h1 : ixN xs.length ((j : Int) - xs.length) = some j := by
      unfold ixN
      rw [if_neg (by omega), if_pos (by omega)]
      congr 1
      omega
    unfold atI
    rw [h1]
    exact hx
theorem o_ixL {x : D} {ds : List PyData} {i : Int} {j : Nat} {p : PyData} (r : Rdd M x (.list ds)) (hj : ds[j]? = some p) (hi : i = (j : Int) ∨ i = (j : Int) - ds.length) (pp : P (.p p) M) : O2 c (rIxL c.m.K) x (dI i) M P := fun H H1 v u Q tr iv iu q => by
  obtain ⟨a, vs, rfl, h1, h2⟩ := rd_l tr iv r
  obtain ⟨w, hw, iw⟩ := dpa_get h2 hj
  exact ⟨a, vs, i, w, rfl, iu.int, h1, atI_of hw (by rw [dpa_len h2]; exact hi), q _ M _ H H1 pp tr (Evl.Ex.refl H) iw⟩
theorem o_ixT {ds : List PyData} {i : Int} {j : Nat} {p : PyData} (hj : ds[j]? = some p) (hi : i = (j : Int) ∨ i = (j : Int) - ds.length) (pp : P (.p p) M) : O2 c (rIxT c.m.K) (dT ds) (dI i) M P := fun H H1 v u Q tr iv iu q => by
  obtain ⟨a, vs, rfl, h1, h2⟩ := rd_t tr iv (.p _)
  obtain ⟨w, hw, iw⟩ := dpa_get h2 hj
  exact ⟨a, vs, i, w, rfl, iu.int, h1, atI_of hw (by rw [dpa_len h2]; exact hi), q _ M _ H H1 pp tr (Evl.Ex.refl H) iw⟩
theorem o_ixS {s : Str} {i : Int} {j : Nat} {ch : Nat} (hs : s.length ≤ 100000) (hj : s.cps.toList[j]? = some ch) (hi : i = (j : Int) ∨ i = (j : Int) - s.cps.toList.length) (pp : P (dS ⟨#[ch]⟩) M) : O2 c rIxS (dS s) (dI i) M P := fun H H1 v u Q tr iv iu q => by
  exact ⟨s, i, ch, iv.str, iu.int, Evl.sz_of hs, atI_of hj hi, q _ M _ H H1 pp tr (Evl.Ex.refl H) (Dq.str _)⟩
theorem isAll_get : ∀ {G : Gm} {H : Hp} {vs : List V} {ds : List D} {i : Nat} {d : D}, IsAll G H vs ds → ds[i]? = some d → ∃ v, vs[i]? = some v ∧ Is G H v d := fun h e => h.get e
theorem isAll_set {G : Gm} {H : Hp} {d : D} {v : V} (hd : Is G H v d) : ∀ {vs : List V} {ds : List D} (i : Nat), IsAll G H vs ds → IsAll G H (vs.set i v) (ds.set i d)
  | [], [], _, _ => trivial
  | _ :: _, _ :: _, 0, h => ⟨hd, h.2⟩
  | _ :: _, _ :: _, i + 1, h => ⟨h.1, isAll_set hd i h.2⟩
theorem o_ixD {a : Addr} {ds : List D} {i : Int} {j : Nat} {p : D} (r : (a, Cell.lsd ds) ∈ M) (hj : ds[j]? = some p) (hi : i = (j : Int)) (pp : P p M) : O2 c (rIxL c.m.K) (.own a) (dI i) M P := fun H H1 v u Q tr iv iu q => by
  obtain ⟨vs, h1, h2⟩ := tr.ok.cells _ _ r
  obtain ⟨w, hw, iw⟩ := isAll_get h2 hj
  exact ⟨a, vs, i, w, iv, iu.int, SqL.of h1, atI_of hw (.inl hi), q _ M _ H H1 pp tr (Evl.Ex.refl H) iw⟩
theorem s_setIx (ok : c.Ok N sc k) (hs : swapsWithSole [.Subscript a b apos] e pos.line c.X.env = pure false) (hw : swappedStores [.Subscript a b apos] e c.X.env = pure none) (h1 : (assignEach [.Subscript a b apos] c.X.env).map (·.2) = [assign (.Subscript a b apos) c.X.env])
    (ha : ∀ v, assign (.Subscript a b apos) c.X.env v = (do
      let ov ← holding [v] (eval a c.X.env)
      let iv ← holding [v, ov] (eval b c.X.env)
      standAt apos
      holding [v, ov, iv] (setItem ov iv v)
      release [v, ov, iv] []))
    (h : Ee c Γ M e fun y M1 => Ee c Γ M1 a fun x M2 => Ee c Γ M2 b fun z M3 => ∃ (l : Addr) (i : Int) (j n : Nat), x = .own l ∧ z = dI i ∧ ((∃ ds p, M3[n]? = some (l, .lst ds) ∧ y = .p p ∧ j < ds.length ∧ (i = (j : Int) ∨ i = (j : Int) - ds.length) ∧ nx_ Γ (M3.set n (l, .lst (ds.set j p)))) ∨ (∃ ds, M3[n]? = some (l, .lsd ds) ∧ j < ds.length ∧ i = (j : Int) ∧ nx_ Γ (M3.set n (l, .lsd (ds.set j y)))) ∨
      (∃ kvs, M3[n]? = some (l, .dic kvs) ∧ kvs.length < 100000 ∧ nx_ Γ (M3.set n (l, .dic (putD kvs (.inl i) y)))))) :
    Es c Γ M (.Assign [.Subscript a b apos] e pos) ⟨nx_, rt_, bk_, ct_⟩ :=
  s_of (ps_asg pe_sem (pg_sub pe_sem pe_sem (PSet.or2 set_list (set_dict (by have := ok.room.units; omega))) ha) hs hw h1) fun σ H H1 E tr sl r => h σ H H1 _ tr sl fun y M1 v H' H2 p1 t1 e1 i1 => by
    refine p1 σ H' H2 _ t1 (sl.mono e1) fun x M2 u H3 H4 p2 t2 e2 i2 => ?_
    refine p2 σ H3 H4 _ t2 (sl.mono (e1.trans e2)) fun z M3 w H5 H6 p3 t3 e3 i3 => ?_
    have ee := (e1.trans e2).trans e3
    obtain ⟨l, i, j, n, rfl, rfl, ⟨ds, p, hn, rfl, hj, hi, pp⟩ | ⟨ds, hn, hj, hi, pp⟩ | ⟨kvs, hn, hl, pp⟩⟩ := p3
    · obtain ⟨ws, g1, g2⟩ := t3.ok.cells _ _ (List.mem_of_getElem? hn)
      have hl := dpa_len g2
      refine .inl ⟨l, ws, i, j, i2, i3.int, g1, ?_, r.nx _ _ σ H5 _ pp (put_own (vs := ws) t3 hn (dpa_set j (dp_mono (e2.trans e3) _ _ i1) g2)) ee (sl.mono ee)⟩
      rcases hi with rfl | rfl
      · exact Evl.ixN_nat (by omega)
      · unfold ixN
        rw [if_neg (by omega), if_pos (by omega)]
        congr 1
        omega
    · obtain ⟨ws, g1, g2⟩ := t3.ok.cells _ _ (List.mem_of_getElem? hn)
      have hl := g2.len
      refine .inl ⟨l, ws, i, j, i2, i3.int, g1, ?_, r.nx _ _ σ H5 _ pp (t3.trans (t3.ok.put (i := n) (c' := .lsd (ds.set j y)) (H2 := upd H6 l (.lst (ws.set j v))) hn rfl (fun b o hb hq => by rw [upd_ne (by simpa [fp1] using hb)]; exact hq) ⟨_, upd_same, isAll_set (i1.mono (e2.trans e3)) j g2⟩)) ee (sl.mono ee)⟩
      subst hi
      exact Evl.ixN_nat (by omega)
    · obtain ⟨ws, g1, g2⟩ := t3.ok.cells _ _ (List.mem_of_getElem? hn)
      have hl2 := pk_len g2
      refine .inr ⟨l, _, i2, by rw [i3.int]; exact DPut.k (k := .inl i) g1 (Evl.sz_lt (by rw [hl2]; exact hl)), r.nx _ _ σ H5 _ pp (t3.trans (t3.ok.put (i := n) (c' := .dic (putD kvs (.inl i) y)) (H2 := upd H6 l (.dK (putK ws (.inl i) v))) hn rfl (fun b o hb hq => by rw [upd_ne (by simpa [fp1] using hb)]; exact hq) ⟨_, upd_same, pk_put (i1.mono (e2.trans e3)) g2⟩)) ee (sl.mono ee)⟩
theorem e_lstD (h : Ea c Γ M es fun ds M1 => ds.length ≤ 1000 ∧ ∀ a, P (.own a) ((a, .lsd ds) :: M1)) : Ee c Γ M (.List es pos) P :=
  e_of (pe_lst pa_sem) fun σ H H1 Q tr sl q => h σ H H1 _ tr sl fun ds M1 vs H' H2 p tr1 e1 i1 => by
    obtain ⟨hl, p⟩ := p
    refine ⟨Evl.sz_of (by rw [i1.len]; omega), fun a ha => ?_⟩
    have t2 := tr1.ok.newOwn (o := .lst vs) (c := .lsd ds) ha rfl ⟨vs, upd_same, i1⟩
    exact q _ _ _ _ _ (p a) (tr1.trans t2) (e1.trans t2.ex) rfl

def signsS (x : Str) : List Str := x.cps.toList.map fun ch => ⟨#[ch]⟩
theorem signs_vals {x : Str} {acc : Array Value} (h : ItemsOf (SignAt x) acc x.cps.size) : Vals ((signsS x).map V.str) acc.toList := by
  have key : ∀ (us : List Value) (n : Nat), us.length + n = x.cps.size → (∀ i, i < us.length → ∀ v, us[i]? = some v → SignAt x (n + i) v) → Vals (((x.cps.toList.drop n).map fun ch => (⟨#[ch]⟩ : Str)).map V.str) us := by
    intro us
    induction us with
    | nil =>
      intro n hn _
      rw [List.drop_eq_nil_of_le (by simp at hn ⊢; omega)]; exact .nil
    | cons u us ih =>
      intro n hn hv
      simp only [List.length_cons] at hn
      have hlt : n < x.cps.toList.length := by simp; omega
      rw [List.drop_eq_getElem_cons hlt, List.map_cons, List.map_cons]
      obtain ⟨ch, t, hc, rfl⟩ := hv 0 (by simp) u rfl
      have hc : x.cps.toList[n]? = some ch := by simpa using hc
      rw [List.getElem?_eq_getElem hlt] at hc
      cases hc
      refine .cons ⟨t, rfl⟩ (ih (n + 1) (by omega) fun i hi v hvv => ?_)
      have := hv (i + 1) (by simp; omega) v (by simpa using hvv)
      rwa [show n + (i + 1) = n + 1 + i by omega] at this
  exact key acc.toList 0 (by simpa using h.1) fun i hi v hv => by simpa using h.2 i v (by simpa using hv)
def rList (K : PySem.W.Frag) : List V → Hp → VK → Prop := fun xs H Q => (∃ p ys, xs = [.ref p] ∧ (SqL K H p ys ∨ SqT K H p ys) ∧ ∀ l, H l = none → Q (.ref l) (upd H l (.lst ys))) ∨ ∃ x, xs = [.str x] ∧ x.cps.size ≤ sizeLine ∧ ∀ l, H l = none → Q (.ref l) (upd H l (.lst ((signsS x).map V.str)))
theorem call_list' (ok : c.Ok N sc k) : CallR c.X (.type "list") (rList c.m.K) := fun pins s σ H xs us Q I r h => by
  rcases h with h | ⟨x, rfl, hx, q⟩
  · rw [← ok.K] at h; exact call_list_of pins s σ H xs us Q I r h
  · obtain ⟨u, rfl, t, rfl⟩ := r.one
    refine call_list_str (hn := hx) (I.ok.hd ok.calm) x t fun h' tk acc' c' kp e hi => ?_
    have hv := signs_vals hi
    exact ⟨.ref s.heap.objs.size, _, I.laid (t' := tk) kp (Nat.le_refl _) (show ObjOk c.X.prog c.X.w _ h' _ (.lst ((signsS x).map V.str)) from ⟨by simpa [signsS] using hx, acc'.toList, c', hv, by simpa using e⟩), rfl, q _ (I.hok.fresh (Nat.le_refl _))⟩
theorem call_tuple' (ok : c.Ok N sc k) : CallR c.X (.type "tuple") (fun xs H Q => ∃ p ys, xs = [.ref p] ∧ ((SqL c.m.K H p ys ∧ ∀ l, H l = none → Q (.ref l) (upd H l (.tup ys))) ∨ (SqT c.m.K H p ys ∧ Q (.ref p) H))) := by rw [← ok.K]; exact call_tuple_of
theorem c_list {x : D} {ds : List PyData} (r : Rdd M x (.list ds) ∨ x = dT ds) (p : ∀ a, P (.own a) ((a, .lst ds) :: M)) : OL c (rList c.m.K) [x] M P := fun H H1 vs Q tr h q => by
  obtain ⟨v, rfl, iv⟩ := is1 h
  have fin : ∀ ws : List V, DqAll c.G.K H ws ds → ∀ l, H1 l = none → Q (.ref l) (upd H1 l (.lst ws)) := fun ws h2 l hl => by
    have t2 := tr.ok.newOwn (o := .lst ws) (c := .lst ds) hl rfl ⟨ws, upd_same, h2⟩
    exact q _ _ _ _ _ (p l) (tr.trans t2) t2.ex rfl
  rcases r with r | rfl
  · obtain ⟨a, ws, rfl, h1, h2⟩ := rd_l tr iv r
    exact .inl ⟨a, ws, rfl, .inl h1, fin ws h2⟩
  · obtain ⟨a, ws, rfl, h1, h2⟩ := rd_t tr iv (.p _)
    exact .inl ⟨a, ws, rfl, .inr h1, fin ws h2⟩
theorem c_listS {s : Str} (hs : s.length ≤ 100000) (p : ∀ a, P (.own a) ((a, .lst ((signsS s).map .str)) :: M)) : OL c (rList c.m.K) [dS s] M P := fun H H1 vs Q tr h q => by
  obtain ⟨v, rfl, iv⟩ := is1 h
  rw [iv.str]
  refine .inr ⟨s, rfl, Evl.sz_of hs, fun l hl => ?_⟩
  have t2 := tr.ok.newOwn (o := .lst ((signsS s).map V.str)) (c := .lst ((signsS s).map .str)) hl rfl ⟨_, upd_same, dpa_strs⟩
  exact q _ _ _ _ _ (p l) (tr.trans t2) t2.ex rfl
theorem c_tuple {x : D} {ds : List PyData} (r : Rdd M x (.list ds) ∨ x = dT ds) (p : P (dT ds) M) : OL c (fun xs H Q => ∃ p ys, xs = [.ref p] ∧ ((SqL c.m.K H p ys ∧ ∀ l, H l = none → Q (.ref l) (upd H l (.tup ys))) ∨ (SqT c.m.K H p ys ∧ Q (.ref p) H))) [x] M P := fun H H1 vs Q tr h q => by
  obtain ⟨v, rfl, iv⟩ := is1 h
  rcases r with r | rfl
  · obtain ⟨a, ws, rfl, h1, h2⟩ := rd_l tr iv r
    refine ⟨a, ws, rfl, .inl ⟨h1, fun l hl => ?_⟩⟩
    have t2 := tr.ok.new (o := .tup ws) hl
    exact q _ _ _ _ _ p (tr.trans t2) t2.ex (Dq.tup (SqT.of upd_same) (dpa_mono t2.ex _ _ h2))
  · obtain ⟨a, ws, rfl, h1, h2⟩ := rd_t tr iv (.p _)
    exact ⟨a, ws, rfl, .inr ⟨h1, q _ M _ H H1 p tr (Evl.Ex.refl H) iv⟩⟩
def rgI (lo hi : Int) : List Int := (List.range (hi - lo).toNat).map fun i => lo + (i : Nat)
theorem rgV_eq (lo hi : Int) : rgV lo hi = (rgI lo hi).map V.int := by
  unfold rgV rgI
  rw [List.map_map]; rfl
theorem e_listRg1 {p1 p2 p3 : Pos} (ok : c.Ok N sc k) (hm : c.m.mg "list" = none) (hm2 : c.m.mg "range" = none) (hg : sc.names.lookup ("list" : Str) = some .globalImplicit) (hg2 : sc.names.lookup ("range" : Str) = some .globalImplicit)
    (na : starEach [a] c.X.env = (false, eval a c.X.env) :: starEach [] c.X.env) (nb : starEach [.Call (.Name "range" p2) [a] [] p3] c.X.env = (false, eval (.Call (.Name "range" p2) [a] [] p3) c.X.env) :: starEach [] c.X.env)
    (h : Ee c Γ M a fun d M1 => ∃ n : Int, d = dI n ∧ (-100000 ≤ n ∧ n ≤ 100000) ∧ ∀ a, P (.own a) ((a, .lst ((rgI 0 n).map .int)) :: M1)) : Ee c Γ M (.Call (.Name "list" p1) [.Call (.Name "range" p2) [a] [] p3] [] pos) P :=
  e_of (pe_listRg ok.calm (gl_of ok hg) (by rw [ok.mg]; exact hm) (prg_1 (gl_of ok hg2) (by rw [ok.mg]; exact hm2) pe_sem na) nb) fun σ H H1 Q tr sl q => h σ H H1 _ tr sl fun d M1 v H' H2 p1 t1 e1 i1 => by
    obtain ⟨n, rfl, hn, p⟩ := p1
    refine ⟨n, i1.int, ⟨by omega, by omega, by omega, by omega, by omega⟩, fun l hl => ?_⟩
    have t2 := t1.ok.newOwn (o := .lst (rgV 0 n)) (c := .lst ((rgI 0 n).map .int)) hl rfl ⟨_, upd_same, by rw [rgV_eq]; exact dpa_ints⟩
    exact q _ _ _ _ _ (p l) (t1.trans t2) (e1.trans t2.ex) rfl
theorem e_listRg2 {p1 p2 p3 : Pos} (ok : c.Ok N sc k) (hm : c.m.mg "list" = none) (hm2 : c.m.mg "range" = none) (hg : sc.names.lookup ("list" : Str) = some .globalImplicit) (hg2 : sc.names.lookup ("range" : Str) = some .globalImplicit)
    (na : starEach [a, b] c.X.env = (false, eval a c.X.env) :: starEach [b] c.X.env) (na2 : starEach [b] c.X.env = (false, eval b c.X.env) :: starEach [] c.X.env) (na3 : (backTo p3 (starEach [b] c.X.env)).any (·.1) = false) (nb : starEach [.Call (.Name "range" p2) [a, b] [] p3] c.X.env = (false, eval (.Call (.Name "range" p2) [a, b] [] p3) c.X.env) :: starEach [] c.X.env)
    (h : Ee c Γ M a fun d M1 => Ee c Γ M1 b fun d2 M2 => ∃ lo n : Int, d = dI lo ∧ d2 = dI n ∧ (-100000 ≤ n ∧ n ≤ 100000) ∧ (-100000 ≤ lo ∧ lo ≤ 100000) ∧ ∀ a, P (.own a) ((a, .lst ((rgI lo n).map .int)) :: M2)) : Ee c Γ M (.Call (.Name "list" p1) [.Call (.Name "range" p2) [a, b] [] p3] [] pos) P :=
  e_of (pe_listRg ok.calm (gl_of ok hg) (by rw [ok.mg]; exact hm) (prg_2 (gl_of ok hg2) (by rw [ok.mg]; exact hm2) pe_sem pe_sem na na2 na3) nb) fun σ H H1 Q tr sl q => h σ H H1 _ tr sl fun d M1 v H' H2 p1 t1 e1 i1 => by
    refine p1 σ H' H2 _ t1 (sl.mono e1) fun d2 M2 w H3 H4 p2 t2 e2 i2 => ?_
    obtain ⟨lo, n, rfl, rfl, hn, hlo, p⟩ := p2
    refine ⟨lo, n, i1.int, i2.int, ⟨by omega, by omega, by omega, by omega, by omega⟩, fun l hl => ?_⟩
    have t3 := t2.ok.newOwn (o := .lst (rgV lo n)) (c := .lst ((rgI lo n).map .int)) hl rfl ⟨_, upd_same, by rw [rgV_eq]; exact dpa_ints⟩
    exact q _ _ _ _ _ (p l) (t2.trans t3) ((e1.trans e2).trans t3.ex) rfl

theorem cr_sorted' (ok : c.Ok N sc k) : CallR c.X (.builtin "sorted") (rSorted c.m.K) := by rw [← ok.K]; exact cr_sorted
theorem cr_all' (ok : c.Ok N sc k) : CallR c.X (.builtin "all") (rAll c.m.K) := by rw [← ok.K]; exact cr_all ok.calm
theorem c_all {x : D} {bs : List Bool} (r : Rdd M x (.list (bs.map .bool))) (p : P (dB (bs.all id)) M) : OL c (rAll c.m.K) [x] M P := ol_of p fun H H1 vs Q tr h q => by
  obtain ⟨v, rfl, iv⟩ := is1 h
  obtain ⟨a, ws, rfl, h1, h2⟩ := rd_l tr iv r
  rw [dpa_bools_inv h2] at h1
  exact ⟨a, bs, rfl, h1, q _ (Dq.bl _)⟩
theorem c_sorted {x : D} {ns : List Int} (r : Rdd M x (.list (ns.map .int))) (hl : ns.length < 64) (p : ∀ (a : Addr) (ns' : List Int), ns'.Perm ns → ns'.Pairwise (· ≤ ·) → P (.own a) ((a, .lst (ns'.map .int)) :: M)) : OL c (rSorted c.m.K) [x] M P := fun H H1 vs Q tr h q => by
  obtain ⟨v, rfl, iv⟩ := is1 h
  obtain ⟨a, ws, rfl, h1, h2⟩ := rd_l tr iv r
  rw [dpa_ints_inv h2] at h1
  refine ⟨a, ns, rfl, h1, hl, fun ns' l hp hs hl => ?_⟩
  have t3 := tr.ok.newOwn (o := .lst (ns'.map V.int)) (c := .lst (ns'.map .int)) hl rfl ⟨_, upd_same, dpa_ints⟩
  exact q _ _ _ _ _ (p l ns' hp hs) (tr.trans t3) t3.ex rfl
end
end CR

namespace CR
open PySem PySem.Spec PyProof.Rows L2
open Evl (Ex)
def Conv (G : Gm) (M M' : Mem) : Prop := ∀ H H1, CR.Ok G H H1 M → CR.Ok G H H1 M' ∧ ∀ b ∈ fp M', b ∈ fp M
theorem Conv.tr {G : Gm} {B : Bs} {H H1 : Hp} {M M' : Mem} (v : Conv G M M') (t : Tr G B H H1 M) : Tr G B H H1 M' :=
  ⟨(v H H1 t.ok).1, t.ex, t.keep, t.old, fun b hb => t.fpM b ((v H H1 t.ok).2 b hb)⟩
theorem Conv.refl {G : Gm} {M : Mem} : Conv G M M := fun _ _ k => ⟨k, fun _ h => h⟩
theorem Conv.trans {G : Gm} {M M' M'' : Mem} (v : Conv G M M') (u : Conv G M' M'') : Conv G M M'' := fun H H1 k =>
  ⟨(u H H1 (v H H1 k).1).1, fun b hb => (v H H1 k).2 b ((u H H1 (v H H1 k).1).2 b hb)⟩
theorem Conv.drop {G : Gm} {p : Addr × Cell} {M : Mem} : Conv G (p :: M) M := fun H H1 k =>
  ⟨⟨k.ex, fun a c h => k.cells a c (List.mem_cons_of_mem _ h), (List.nodup_append.mp (show (fp1 p ++ fp M).Nodup from k.nd)).2.1, fun b hb => k.out b (by show b ∈ fp1 p ++ fp M; exact List.mem_append_right _ hb)⟩,
    fun b hb => by show b ∈ fp1 p ++ fp M; exact List.mem_append_right _ hb⟩
theorem Conv.perm {G : Gm} {M M' : Mem} (h : M.Perm M') : Conv G M M' := fun H H1 k => ⟨k.perm h, fun b hb => (fp_perm h).mem_iff.mpr hb⟩
theorem erase_perm : ∀ {M : Mem} {i : Nat} {p : Addr × Cell}, M[i]? = some p → M.Perm (p :: M.eraseIdx i)
  | [], _, _, h => by simp at h
  | x :: M, 0, p, h => by simp at h; subst h; exact .refl _
  | x :: M, i + 1, p, h => (List.Perm.cons x (erase_perm (M := M) (i := i) (p := p) (by simpa using h))).trans (.swap ..)
theorem Conv.dropAt {G : Gm} {M : Mem} {i : Nat} {p : Addr × Cell} (h : M[i]? = some p) : Conv G M (M.eraseIdx i) := (Conv.perm (erase_perm h)).trans Conv.drop
theorem Conv.shut {G : Gm} {a c : Addr} {st ix : Int} {ns : List Int} {M M0 : Mem} (l : LawOk st ix ns) (h : M.Perm ((a, .law c) :: M0)) : Conv G (lawC a c st ix ns M0) M := fun H H1 k =>
  ⟨k.shut l h, fun b hb => (fp_perm h).mem_iff.mp hb⟩
section
variable {c : Cd} {N : List Str} {sc : Scope} {k : Nat} {Γ : Gx} {M : Mem} {P : D → Mem → Prop} {T : Bool → Mem → Prop} {D' : De} {nx_ : Gx → Mem → Prop} {rt_ : D → Mem → Prop} {bk_ ct_ : Gx → Mem → Prop} {o e a b : Expr} {es : List Expr} {pos apos cpos : Pos}
theorem e_conv (h : Ee c Γ M e fun d M1 => ∃ M2, Conv c.G M1 M2 ∧ P d M2) : Ee c Γ M e P := fun σ H H1 Q tr sl q => h σ H H1 Q tr sl fun d M1 v H' H2 p t ex i => by
  obtain ⟨M2, v, p⟩ := p
  exact q d M2 _ H' H2 p (v.tr t) ex i
theorem sq_conv {t : TS} {M2 : Mem} (v : Conv c.G M M2) (h : Sq c t Γ M2 D') : Sq c t Γ M D' := fun σ H H1 E tr sl r => h σ H H1 E (v.tr tr) sl r
theorem sq_opn {t : TS} {a d : Addr} (hm : (a, Cell.law d) ∈ M) (h : ∀ st ix ns M0, LawOk st ix ns → M.Perm ((a, .law d) :: M0) → Sq c t Γ (lawC a d st ix ns M0) D') : Sq c t Γ M D' := fun σ H H1 E tr sl r => by
  obtain ⟨M0, hp⟩ := perm_mem hm
  obtain ⟨st, ix, ns, hl, hk⟩ := tr.ok.opn hp
  have v : Tr c.G c.B H H1 (lawC a d st ix ns M0) := ⟨hk, tr.ex, tr.keep, tr.old, fun b hb => tr.fpM b ((fp_perm hp).mem_iff.mpr hb)⟩
  exact h st ix ns M0 hl hp σ H H1 E v sl r
theorem sq_imp {t : TS} {D2 : De} (h : Sq c t Γ M D2) (h1 : ∀ Γ M, D2.nx Γ M → D'.nx Γ M) (h2 : ∀ d M, D2.rt d M → D'.rt d M) (h3 : ∀ Γ M, D2.bk Γ M → D'.bk Γ M) (h4 : ∀ Γ M, D2.ct Γ M → D'.ct Γ M) : Sq c t Γ M D' :=
  fun σ H H1 E tr sl r => h σ H H1 E tr sl ⟨fun Γ M σ H H1 p => r.nx Γ M σ H H1 (h1 Γ M p), fun d M v H H1 p => r.rt d M v H H1 (h2 d M p), fun Γ M σ H H1 p => r.bk Γ M σ H H1 (h3 Γ M p), fun Γ M σ H H1 p => r.ct Γ M σ H H1 (h4 Γ M p)⟩
end
end CR

namespace CR
open PySem PySem.Spec PyProof.Rows L2
open Evl (Ex)
theorem OpR.or2 {X : Cx} {f : Value → Value → Sem Value} {r r' : R2} (h : OpR X f r) (h' : OpR X f r') : OpR X f (fun x y H Q => r x y H Q ∨ r' x y H Q) := fun pins s σ H x y v u Q I rx ry q => by
  rcases q with q | q
  · exact h pins s σ H x y v u Q I rx ry q
  · exact h' pins s σ H x y v u Q I rx ry q
def sem2 (X : Cx) (f : Value → Value → Sem Value) : R2 := fun x y H Q => ∀ (pins : List (Addr × Obj)) (s : Shared) (σ : L2.St) (v u : Value), Inv X pins σ H s → RelV x v → RelV y u → wpAny (model X.prog X.w) X.A (f v u) (EP X pins σ Q) X.xe s
theorem op_sem2 {X : Cx} {f : Value → Value → Sem Value} : OpR X f (sem2 X f) := fun pins s σ H x y v u Q I rx ry q => q pins s σ v u I rx ry
section
variable {c : Cd} {N : List Str} {sc : Scope} {k : Nat} {Γ : Gx} {M : Mem} {P : D → Mem → Prop} {T : Bool → Mem → Prop} {nx_ : Gx → Mem → Prop} {rt_ : D → Mem → Prop} {bk_ ct_ : Gx → Mem → Prop} {e a b : Expr} {es : List Expr} {pos apos cpos : Pos} {x y : D} {i j : Int} {s s' : Str}
def rStr : R2 := fun x y H Q => ∃ i j, x = .str i ∧ y = .str j ∧ i.length + j.length ≤ sizeLine ∧ Q (.str (i ++ j)) H
def rAdd (c : Cd) : R2 := fun x y H Q => (rI0 fun i j => .int (i + j)) x y H Q ∨ rCat x y H Q ∨ rCatA c.X.K x y H Q ∨ rStr x y H Q ∨ sem2 c.X (binaryOp .Add) x y H Q
theorem op_addA (o : c.Ok N sc k) : OpR c.X (binaryOp .Add) (rAdd c) := OpR.or2 op_add (OpR.or2 op_cat (OpR.or2 op_catA (OpR.or2 op_add_str op_sem2)))
theorem e_add (o : c.Ok N sc k) (h : Ee c Γ M a fun x M1 => Ee c Γ M1 b fun y M2 => O2 c (rAdd c) x y M2 P) : Ee c Γ M (.BinOp a .Add b pos) P := e_op (op_addA o) h
theorem oa_int (p : P (dI (i + j)) M) : O2 c (rAdd c) (dI i) (dI j) M P := fun H H1 v u Q tr iv iu q => .inl (o_add p H H1 v u Q tr iv iu q)
theorem oa_lst {ds zs : List PyData} (hx : Rdx M x ds) (hy : Rdx M y zs) (hl : ds.length + zs.length < 100000) (p : ∀ a, P (.own a) ((a, .lst (ds ++ zs)) :: M)) : O2 c (rAdd c) x y M P := fun H H1 v u Q tr iv iu q => .inr (.inl (o_cat hx hy hl p H H1 v u Q tr iv iu q))
theorem oa_tup {ok : c.Ok N sc k} {ds zs : List PyData} (hl : ds.length + zs.length < 100000) (p : P (dT (ds ++ zs)) M) : O2 c (rAdd c) (dT ds) (dT zs) M P := fun H H1 v u Q tr iv iu q => by
  refine .inr (.inr (.inl ?_))
  rw [show c.X.K = c.G.K from ok.K]
  obtain ⟨a, vs, rfl, h1, h2⟩ := rd_t tr iv (.p _)
  obtain ⟨b, ws, rfl, h3, h4⟩ := rd_t tr iu (.p _)
  have l1 := dpa_len h2
  have l2 := dpa_len h4
  refine ⟨a, b, vs, ws, rfl, rfl, h1, h3, Evl.sz_of (by omega), fun e => ?_, fun _ e => ?_, fun _ _ l hl => ?_⟩
  · subst e
    cases h2
    exact q _ M _ H H1 p tr (Evl.Ex.refl H) (by simpa using iu)
  · subst e
    cases h4
    exact q _ M _ H H1 p tr (Evl.Ex.refl H) (by simpa using iv)
  · have t2 := tr.ok.new (o := .tup (vs ++ ws)) hl
    exact q _ _ _ _ _ p (tr.trans t2) t2.ex (Dq.tup (SqT.of upd_same) (dpa_mono t2.ex _ _ (dpa_append h2 h4)))
theorem oa_str (hl : s.length + s'.length ≤ 100000) (p : P (dS (s ++ s')) M) : O2 c (rAdd c) (dS s) (dS s') M P := fun H H1 v u Q tr iv iu q =>
  .inr (.inr (.inr (.inl ⟨s, s', iv.str, iu.str, Evl.sz_of hl, q _ M _ H H1 p tr (Evl.Ex.refl H) (Dq.str _)⟩)))
def rMul (K : PySem.W.Frag) : R2 := fun x y H Q => (rI CMul fun i j => .int (i * j)) x y H Q ∨ rRep x y H Q ∨ rRepT K x y H Q
theorem op_mulA (o : c.Ok N sc k) : OpR c.X (binaryOp .Mult) (rMul c.m.K) := by
  rw [← o.K]
  exact OpR.or2 op_mul (OpR.or2 op_rep op_repT)
theorem e_mul (o : c.Ok N sc k) (h : Ee c Γ M a fun x M1 => Ee c Γ M1 b fun y M2 => O2 c (rMul c.m.K) x y M2 P) : Ee c Γ M (.BinOp a .Mult b pos) P := e_op (op_mulA o) h
theorem om_int (hc : CMul i j) (p : P (dI (i * j)) M) : O2 c (rMul c.m.K) (dI i) (dI j) M P := fun H H1 v u Q tr iv iu q => .inl (o_mul hc p H H1 v u Q tr iv iu q)
theorem om_lst {n : Int} {ds : List PyData} (hx : Rdx M x ds) (hn : -100000 ≤ n ∧ n ≤ 100000) (hl : ds.length * n.toNat < 100000) (p : ∀ a, P (.own a) ((a, .lst (List.replicate n.toNat ds).flatten) :: M)) : O2 c (rMul c.m.K) x (dI n) M P :=
  fun H H1 v u Q tr iv iu q => .inr (.inl (o_rep hx hn hl p H H1 v u Q tr iv iu q))
def rEqA (c : Cd) : R2 := fun x y H Q => rEq x y H Q ∨ rEqD c.m.K x y H Q ∨ sem2 c.X (compareOp .Eq) x y H Q
def rNeA (K : PySem.W.Frag) : R2 := fun x y H Q => rNe x y H Q ∨ rNeD K x y H Q
theorem op_eqA (o : c.Ok N sc k) : OpR c.X (compareOp .Eq) (rEqA c) := OpR.or2 op_eq (OpR.or2 (op_eqD' o) op_sem2)
theorem op_neA (o : c.Ok N sc k) : OpR c.X (compareOp .NotEq) (rNeA c.m.K) := OpR.or2 op_ne (op_neD' o)
theorem e_eq (o : c.Ok N sc k) (h : Ee c Γ M a fun x M1 => Ee c Γ M1 b fun y M2 => O2 c (rEqA c) x y M2 P) : Ee c Γ M (.Compare a [.Eq] [b] pos) P := e_cmp (op_eqA o) (nomark _) h
theorem t_eq (o : c.Ok N sc k) (h : Ee c Γ M a fun x M1 => Ee c Γ M1 b fun y M2 => O2 c (rEqA c) x y M2 (AsT T)) : Et c Γ M (.Compare a [.Eq] [b] pos) T := t_cmp (op_eqA o) (nomark _) h
theorem e_ne (o : c.Ok N sc k) (h : Ee c Γ M a fun x M1 => Ee c Γ M1 b fun y M2 => O2 c (rNeA c.m.K) x y M2 P) : Ee c Γ M (.Compare a [.NotEq] [b] pos) P := e_cmp (op_neA o) (nomark _) h
theorem t_ne (o : c.Ok N sc k) (h : Ee c Γ M a fun x M1 => Ee c Γ M1 b fun y M2 => O2 c (rNeA c.m.K) x y M2 (AsT T)) : Et c Γ M (.Compare a [.NotEq] [b] pos) T := t_cmp (op_neA o) (nomark _) h
theorem oe_int (p : P (dB (decide (i = j))) M) : O2 c (rEqA c) (dI i) (dI j) M P := fun H H1 v u Q tr iv iu q => .inl (o_eqI p H H1 v u Q tr iv iu q)
theorem on_int (p : P (dB (!decide (i = j))) M) : O2 c (rNeA c.m.K) (dI i) (dI j) M P := fun H H1 v u Q tr iv iu q => .inl (o_neI p H H1 v u Q tr iv iu q)
theorem oe_str (p : P (dB (decide (s = s'))) M) : O2 c (rEqA c) (dS s) (dS s') M P := fun H H1 v u Q tr iv iu q => .inl (o_eqS p H H1 v u Q tr iv iu q)
theorem on_str (p : P (dB (!decide (s = s'))) M) : O2 c (rNeA c.m.K) (dS s) (dS s') M P := fun H H1 v u Q tr iv iu q => .inl (o_neS p H H1 v u Q tr iv iu q)
theorem oe_bl {a b : Bool} (p : P (dB (decide (a = b))) M) : O2 c (rEqA c) (dB a) (dB b) M P := fun H H1 v u Q tr iv iu q => .inl (o_eqB p H H1 v u Q tr iv iu q)
theorem on_bl {a b : Bool} (p : P (dB (!decide (a = b))) M) : O2 c (rNeA c.m.K) (dB a) (dB b) M P := fun H H1 v u Q tr iv iu q => .inl (o_neB p H H1 v u Q tr iv iu q)
theorem oe_dat {d e : PyData} (hx : Rdd M x d) (hy : Rdd M y e) (h1 : SeqAt.shaped d = true) (h2 : SeqAt.shaped e = true) (p : P (dB (PyData.eqv d e)) M) : O2 c (rEqA c) x y M P := fun H H1 v u Q tr iv iu q => .inr (.inl (o_eqD hx hy h1 h2 p H H1 v u Q tr iv iu q))
theorem on_dat {d e : PyData} (hx : Rdd M x d) (hy : Rdd M y e) (h1 : SeqAt.shaped d = true) (h2 : SeqAt.shaped e = true) (p : P (dB (!PyData.eqv d e)) M) : O2 c (rNeA c.m.K) x y M P := fun H H1 v u Q tr iv iu q => .inr (o_neD hx hy h1 h2 p H H1 v u Q tr iv iu q)
def rIxDc : R2 := fun x y H Q => ∃ a v, x = .ref a ∧ DGet H a y (some v) ∧ Q v H
theorem ix_dct (o : c.Ok N sc k) : IxR c.X rIxDc := by
  intro value slice pins s σ H x y v u Q I rx ry h hs
  obtain ⟨a, z, rfl, g, q⟩ := h
  cases rx
  exact tail_any (dict_typeIs I g) PySem.F.slot_dict_getitem.lookup (d_getItem (by have := o.room.units; omega) I g ry fun w' s3 I3 rw' => ⟨z, H, I3, rw', q⟩) hs
def rIxA (K : PySem.W.Frag) : R2 := fun x y H Q => rIx K x y H Q ∨ rIxDc x y H Q
theorem ix_seq' (o : c.Ok N sc k) : IxR c.X (rIxA c.m.K) := by
  have h := IxR.or (X := c.X) ix_seq (ix_dct o)
  rw [o.K] at h; exact h
theorem ox_dic {a : Addr} {kvs : List (Key × D)} {ky : Key} {d : D} (r : (a, Cell.dic kvs) ∈ M) (hy : y = kD ky) (hj : lkD kvs ky = some d) (pp : P d M) : O2 c (rIxA c.m.K) (.own a) y M P := fun H H1 v u Q tr iv iu q => by
  subst hy
  obtain ⟨vs, h1, h2⟩ := tr.ok.cells _ _ r
  obtain ⟨w, hw, iw⟩ := (pk_find (k := ky) h2).1 d hj
  exact .inr ⟨a, w, iv, by rw [kD_v iu, ← hw]; exact DGet.k h1, q _ M _ H H1 pp tr (Evl.Ex.refl H) iw⟩
theorem e_sub (o : c.Ok N sc k) (hs : PlainIx b) (h : Ee c Γ M a fun x M1 => Ee c Γ M1 b fun y M2 => O2 c (rIxA c.m.K) x y M2 P) : Ee c Γ M (.Subscript a b pos) P := e_ix (ix_seq' o) hs h
theorem ox_lst {ds : List PyData} {j : Nat} {p : PyData} (r : Rdd M x (.list ds)) (hj : ds[j]? = some p) (hi : i = (j : Int) ∨ i = (j : Int) - ds.length) (pp : P (.p p) M) : O2 c (rIxA c.m.K) x (dI i) M P := fun H H1 v u Q tr iv iu q => .inl (.inl (o_ixL r hj hi pp H H1 v u Q tr iv iu q))
theorem ox_tup {ds : List PyData} {j : Nat} {p : PyData} (hj : ds[j]? = some p) (hi : i = (j : Int) ∨ i = (j : Int) - ds.length) (pp : P (.p p) M) : O2 c (rIxA c.m.K) (dT ds) (dI i) M P := fun H H1 v u Q tr iv iu q => .inl (.inr (.inl (o_ixT hj hi pp H H1 v u Q tr iv iu q)))
theorem ox_str {j ch : Nat} (hs : s.length ≤ 100000) (hj : s.cps.toList[j]? = some ch) (hi : i = (j : Int) ∨ i = (j : Int) - s.cps.toList.length) (pp : P (dS ⟨#[ch]⟩) M) : O2 c (rIxA c.m.K) (dS s) (dI i) M P := fun H H1 v u Q tr iv iu q => .inl (.inr (.inr (o_ixS hs hj hi pp H H1 v u Q tr iv iu q)))
theorem ox_any {a : Addr} {ds : List D} {j : Nat} {p : D} (r : (a, Cell.lsd ds) ∈ M) (hj : ds[j]? = some p) (hi : i = (j : Int)) (pp : P p M) : O2 c (rIxA c.m.K) (.own a) (dI i) M P := fun H H1 v u Q tr iv iu q => .inl (.inl (o_ixD r hj hi pp H H1 v u Q tr iv iu q))
def fl : PyData → Bool
  | .none => true
  | .bool _ => true
  | .int _ => true
  | .str _ => true
  | _ => false
theorem fl_v {K : PySem.W.Frag} {H : Hp} {v : V} {d : PyData} (h : Dq K H v d) : flatV v = fl d := by cases h <;> rfl
theorem fl_eqv {K : PySem.W.Frag} {H : Hp} {v u : V} {d e : PyData} (h : Dq K H v d) (h' : Dq K H u e) (h1 : fl d = true) (h2 : fl e = true) : eqV v u = PyData.eqv d e := by
  cases h <;> cases h' <;> first | rfl | (cases h1) | (cases h2) | simp [eqV, PyData.eqv]
theorem inV_eq {K : PySem.W.Frag} {H : Hp} {v : V} {d : PyData} (h : Dq K H v d) (hf : fl d = true) : ∀ {ds : List PyData} {vs : List V}, DqAll K H vs ds → ds.all fl = true → inV v vs = ds.any (fun y => PyData.eqv y d) ∧ vs.all flatV = true
  | [], _, ha, _ => by cases ha; exact ⟨rfl, rfl⟩
  | z :: ds, _, ha, hl => by
    cases ha with
    | cons a1 a2 =>
      simp only [List.all_cons, Bool.and_eq_true] at hl
      obtain ⟨i1, i2⟩ := inV_eq h hf a2 hl.2
      unfold inV at i1 ⊢
      rw [List.any_cons, List.any_cons, i1, fl_eqv a1 h hl.1 hf]
      exact ⟨rfl, by simp [i2, fl_v a1, hl.1]⟩
def rInDc (neg : Bool) : R2 := fun x y H Q => ∃ a r, y = .ref a ∧ DGet H a x r ∧ Q (.bl (if neg then !r.isSome else r.isSome)) H
def rInDp (K : PySem.W.Frag) (neg : Bool) : R2 := fun x y H Q => ∃ d ds, L2.Dp K H x d ∧ L2.Dp K H y (.list ds) ∧ SeqAt.shaped d = true ∧ SeqAt.shaped (.list ds) = true ∧ Q (.bl (if neg then !ds.any fun z => PyData.eqv z d else ds.any fun z => PyData.eqv z d)) H
def rInA (K : PySem.W.Frag) (neg : Bool) : R2 := fun x y H Q => rIn K neg x y H Q ∨ rInDc neg x y H Q ∨ rInDp K neg x y H Q
theorem op_in' (o : c.Ok N sc k) : OpR c.X (compareOp .In) (rInA c.m.K false) := by
  have h1 := op_in_seq (X := c.X)
  rw [o.K] at h1
  have h2 : OpR c.X (compareOp .In) (rInDc false) := fun pins s σ H x y v u Q I rx ry q => by
    obtain ⟨a, r, rfl, g, q⟩ := q
    cases ry
    exact d_in (by have := o.room.units; omega) I g rx fun s3 I3 => ⟨.bl r.isSome, H, I3, rfl, q⟩
  have h3 := op_inD (X := c.X) (by have := o.room.un; omega)
  rw [o.K] at h3
  exact OpR.or2 h1 (OpR.or2 h2 h3)
theorem op_nin' (o : c.Ok N sc k) : OpR c.X (compareOp .NotIn) (rInA c.m.K true) := by
  have h1 := op_notIn_seq (X := c.X)
  rw [o.K] at h1
  have h2 : OpR c.X (compareOp .NotIn) (rInDc true) := fun pins s σ H x y v u Q I rx ry q => by
    obtain ⟨a, r, rfl, g, q⟩ := q
    cases ry
    exact d_notIn (by have := o.room.units; omega) I g rx fun s3 I3 => ⟨.bl (!r.isSome), H, I3, rfl, q⟩
  have h3 := op_notInD (X := c.X) (by have := o.room.un; omega)
  rw [o.K] at h3
  exact OpR.or2 h1 (OpR.or2 h2 h3)
theorem o_inDic {a : Addr} {kvs : List (Key × D)} {ky : Key} {neg : Bool} (r : (a, Cell.dic kvs) ∈ M) (hx : x = kD ky) (p : P (dB (if neg then !(lkD kvs ky).isSome else (lkD kvs ky).isSome)) M) : O2 c (rInA c.m.K neg) x (.own a) M P := fun H H1 v u Q tr iv iu q => by
  subst hx
  obtain ⟨vs, h1, h2⟩ := tr.ok.cells _ _ r
  have e : (valV vs ky).isSome = (lkD kvs ky).isSome := by
    cases h : lkD kvs ky with
    | none => rw [(pk_find (k := ky) h2).2 h]; rfl
    | some d =>
      obtain ⟨w, hw, _⟩ := (pk_find (k := ky) h2).1 d h
      rw [hw]; rfl
  exact .inr (.inl ⟨a, valV vs ky, iu, by rw [kD_v iv]; exact DGet.k h1, by rw [e]; exact q _ M _ H H1 p tr (Evl.Ex.refl H) (Dq.bl _)⟩)
theorem o_inDp {d : PyData} {ds : List PyData} {neg : Bool} (hx : Rdd M x d) (hy : Rdd M y (.list ds)) (h1 : SeqAt.shaped d = true) (h2 : SeqAt.shaped (.list ds) = true) (p : P (dB (if neg then !ds.any fun z => PyData.eqv z d else ds.any fun z => PyData.eqv z d)) M) : O2 c (rInA c.m.K neg) x y M P := fun H H1 v u Q tr iv iu q =>
  .inr (.inr ⟨d, ds, rd_dp tr iv hx, rd_dp tr iu hy, h1, h2, q _ M _ H H1 p tr (Evl.Ex.refl H) (Dq.bl _)⟩)
theorem o_in {d : PyData} {ds : List PyData} {neg : Bool} (hy : Rdd M y (.list ds) ∨ y = dT ds) (h1 : fl d = true) (h2 : ds.all fl = true) (p : P (dB (if neg then !ds.any (fun y => PyData.eqv y d) else ds.any (fun y => PyData.eqv y d))) M) : O2 c (rInA c.m.K neg) (.p d) y M P := fun H H1 v u Q tr iv iu q => by
  have iv : Dq c.G.K H v d := iv
  rcases hy with hy | rfl
  · obtain ⟨a, vs, rfl, g1, g2⟩ := rd_l tr iu hy
    obtain ⟨e1, e2⟩ := inV_eq iv h1 g2 h2
    exact .inl ⟨a, vs, rfl, .inl g1, (fl_v iv).trans h1, e2, by rw [e1]; exact q _ M _ H H1 p tr (Evl.Ex.refl H) (Dq.bl _)⟩
  · obtain ⟨a, vs, rfl, g1, g2⟩ := rd_t tr iu (.p _)
    obtain ⟨e1, e2⟩ := inV_eq iv h1 g2 h2
    exact .inl ⟨a, vs, rfl, .inr g1, (fl_v iv).trans h1, e2, by rw [e1]; exact q _ M _ H H1 p tr (Evl.Ex.refl H) (Dq.bl _)⟩
theorem e_in (o : c.Ok N sc k) (hm : behindInMarks .In b = false) (h : Ee c Γ M a fun x M1 => Ee c Γ M1 b fun y M2 => O2 c (rInA c.m.K false) x y M2 P) : Ee c Γ M (.Compare a [.In] [b] pos) P := e_cmp (op_in' o) hm h
theorem t_in (o : c.Ok N sc k) (hm : behindInMarks .In b = false) (h : Ee c Γ M a fun x M1 => Ee c Γ M1 b fun y M2 => O2 c (rInA c.m.K false) x y M2 (AsT T)) : Et c Γ M (.Compare a [.In] [b] pos) T := t_cmp (op_in' o) hm h
theorem e_nin (o : c.Ok N sc k) (hm : behindInMarks .NotIn b = false) (h : Ee c Γ M a fun x M1 => Ee c Γ M1 b fun y M2 => O2 c (rInA c.m.K true) x y M2 P) : Ee c Γ M (.Compare a [.NotIn] [b] pos) P := e_cmp (op_nin' o) hm h
theorem t_nin (o : c.Ok N sc k) (hm : behindInMarks .NotIn b = false) (h : Ee c Γ M a fun x M1 => Ee c Γ M1 b fun y M2 => O2 c (rInA c.m.K true) x y M2 (AsT T)) : Et c Γ M (.Compare a [.NotIn] [b] pos) T := t_cmp (op_nin' o) hm h
theorem e_isN (h : Ee c Γ M a fun x M1 => ∃ d, x = .p d ∧ P (dB (isN d)) M1) {j pos'} : Ee c Γ M (.Compare a [.Is] [.Constant .none j pos'] pos) P :=
  e_cmp op_isN (nomark _) (h.imp fun x M1 ⟨d, e, p⟩ => by subst e; exact e_non (o_isN p))
theorem t_isN (h : Ee c Γ M a fun x M1 => ∃ d, x = .p d ∧ T (isN d) M1) {j pos'} : Et c Γ M (.Compare a [.Is] [.Constant .none j pos'] pos) T :=
  t_cmp op_isN (nomark _) (h.imp fun x M1 ⟨d, e, p⟩ => by subst e; exact e_non (o_isN ⟨_, rfl, p⟩))
theorem e_notN (h : Ee c Γ M a fun x M1 => ∃ d, x = .p d ∧ P (dB (!isN d)) M1) {j pos'} : Ee c Γ M (.Compare a [.IsNot] [.Constant .none j pos'] pos) P :=
  e_cmp op_notN (nomark _) (h.imp fun x M1 ⟨d, e, p⟩ => by subst e; exact e_non (o_notN p))
theorem t_notN (h : Ee c Γ M a fun x M1 => ∃ d, x = .p d ∧ T (!isN d) M1) {j pos'} : Et c Γ M (.Compare a [.IsNot] [.Constant .none j pos'] pos) T :=
  t_cmp op_notN (nomark _) (h.imp fun x M1 ⟨d, e, p⟩ => by subst e; exact e_non (o_notN ⟨_, rfl, p⟩))
def cutD (xs : List PyData) (lo hi : Option Int) : List PyData := (xs.drop (HT.sIx xs.length 0 lo)).take (HT.sIx xs.length xs.length hi - HT.sIx xs.length 0 lo)
theorem cut_dq {K : PySem.W.Frag} {H : Hp} {vs : List V} {ds : List PyData} {lo hi : Option Int} (h : DqAll K H vs ds) : DqAll K H (cutV vs lo hi) (cutD ds lo hi) := by
  unfold cutV cutD
  rw [dpa_len h]
  exact dpa_take _ (dpa_drop _ h)
def Eo (c : Cd) (Γ : Gx) (M : Mem) (e : Option Expr) (P : Option Int → Mem → Prop) : Prop := match e with
  | none => P none M
  | some e => Ee c Γ M e fun d M1 => ∃ i, d = dI i ∧ P (some i) M1
theorem eo_none {P : Option Int → Mem → Prop} (p : P none M) : Eo c Γ M none P := p
theorem eo_some {P : Option Int → Mem → Prop} (h : Ee c Γ M e fun d M1 => ∃ i, d = dI i ∧ P (some i) M1) : Eo c Γ M (some e) P := h
def rSlSeq (K : PySem.W.Frag) : V → Option Int → Option Int → Hp → VK → Prop := fun x lo hi H Q => rSlL K x lo hi H Q ∨ rSlA K x lo hi H Q
theorem sl_seq (o : c.Ok N sc k) : SlR c.X (rSlSeq c.m.K) := by rw [← o.K]; exact SlR.or sl_list sl_tupA
def OS (c : Cd) (x : D) (lo hi : Option Int) (M : Mem) (P : D → Mem → Prop) : Prop :=
  ∀ (H H1 : Hp) (v : V) (Q : VK), Tr c.G c.B H H1 M → Is c.G H v x → (∀ d M' z H' H2, P d M' → Tr c.G c.B H' H2 M' → Ex H H' → Is c.G H' z d → Q z H2) → rSlSeq c.m.K v lo hi H1 Q
theorem po_of {o : Option Expr} {Po : Option Int → Mem → Prop} (h : Eo c Γ M o Po) : ∃ t : TO, PO c.X o t ∧ ∀ (σ : L2.St) (H H1 : Hp) (Q : Option Int → Hp → Prop), Tr c.G c.B H H1 M → Slots c.G H σ Γ → (∀ i M' H' H2, Po i M' → Tr c.G c.B H' H2 M' → Ex H H' → Q i H2) → t σ H1 Q := by
  cases o with
  | none => exact ⟨_, po_none, fun σ H H1 Q tr sl q => q none M H H1 h tr (Evl.Ex.refl H)⟩
  | some e => exact ⟨_, po_some pe_sem, fun σ H H1 Q tr sl q => h σ H H1 _ tr sl fun d M' v H' H2 p t ex i => by
      obtain ⟨n, rfl, p⟩ := p
      exact ⟨n, i.int, q _ M' H' H2 p t ex⟩⟩
theorem e_slice {lo hi : Option Expr} {p2 : Pos} (o : c.Ok N sc k) (h : Ee c Γ M a fun x M1 => Eo c Γ M1 lo fun l M2 => Eo c Γ M2 hi fun u M3 => OS c x l u M3 P) : Ee c Γ M (.Subscript a (.Slice lo hi none p2) pos) P := by
  cases lo with
  | none =>
    cases hi with
    | none =>
      exact e_of (pe_slice (sl_seq o) pe_sem po_none po_none) fun σ H H1 Q tr sl q => h σ H H1 _ tr sl fun x M1 v H' H2 p t e1 iv => p H' H2 v Q t iv fun d M' z H3 H4 p3 t3 e3 i3 => q d M' z H3 H4 p3 t3 (e1.trans e3) i3
    | some hi =>
      exact e_of (pe_slice (sl_seq o) pe_sem po_none (po_some pe_sem)) fun σ H H1 Q tr sl q => h σ H H1 _ tr sl fun x M1 v H' H2 p t e1 iv => p σ H' H2 _ t (sl.mono e1) fun d2 M2 v2 H3 H4 p2 t2 e2 i2 => by
        obtain ⟨n, rfl, p2⟩ := p2
        exact ⟨n, i2.int, p2 H3 H4 v Q t2 (iv.mono e2) fun d M' z H5 H6 p3 t3 e3 i3 => q d M' z H5 H6 p3 t3 ((e1.trans e2).trans e3) i3⟩
  | some lo =>
    cases hi with
    | none =>
      exact e_of (pe_slice (sl_seq o) pe_sem (po_some pe_sem) po_none) fun σ H H1 Q tr sl q => h σ H H1 _ tr sl fun x M1 v H' H2 p t e1 iv => p σ H' H2 _ t (sl.mono e1) fun d2 M2 v2 H3 H4 p2 t2 e2 i2 => by
        obtain ⟨n, rfl, p2⟩ := p2
        exact ⟨n, i2.int, p2 H3 H4 v Q t2 (iv.mono e2) fun d M' z H5 H6 p3 t3 e3 i3 => q d M' z H5 H6 p3 t3 ((e1.trans e2).trans e3) i3⟩
    | some hi =>
      exact e_of (pe_slice (sl_seq o) pe_sem (po_some pe_sem) (po_some pe_sem)) fun σ H H1 Q tr sl q => h σ H H1 _ tr sl fun x M1 v H' H2 p t e1 iv => p σ H' H2 _ t (sl.mono e1) fun d2 M2 v2 H3 H4 p2 t2 e2 i2 => by
        obtain ⟨n, rfl, p2⟩ := p2
        refine ⟨n, i2.int, p2 σ H3 H4 _ t2 (sl.mono (e1.trans e2)) fun d3 M3 v3 H5 H6 p3 t3 e3 i3 => ?_⟩
        obtain ⟨n3, rfl, p3⟩ := p3
        exact ⟨n3, i3.int, p3 H5 H6 v Q t3 (iv.mono (e2.trans e3)) fun d M' z H7 H8 p4 t4 e4 i4 => q d M' z H7 H8 p4 t4 (((e1.trans e2).trans e3).trans e4) i4⟩
theorem sl_lst {lo hi : Option Int} {ds : List PyData} (r : Rdd M x (.list ds)) (p : ∀ a, P (.own a) ((a, .lst (cutD ds lo hi)) :: M)) : OS c x lo hi M P := fun H H1 v Q tr iv q => by
  obtain ⟨a, vs, rfl, h1, h2⟩ := rd_l tr iv r
  refine .inl ⟨a, vs, rfl, h1, fun l hl => ?_⟩
  have t2 := tr.ok.newOwn (o := .lst (cutV vs lo hi)) (c := .lst (cutD ds lo hi)) hl rfl ⟨_, upd_same, cut_dq h2⟩
  exact q _ _ _ _ _ (p l) (tr.trans t2) t2.ex rfl
theorem sl_tup {lo hi : Option Int} {ds : List PyData} (p : P (dT (cutD ds lo hi)) M) : OS c (dT ds) lo hi M P := fun H H1 v Q tr iv q => by
  obtain ⟨a, vs, rfl, h1, h2⟩ := rd_t tr iv (.p _)
  have hl := dpa_len h2
  refine .inr ⟨a, vs, rfl, h1, fun hw => ?_, fun _ l hl => ?_⟩
  · have e : cutD ds lo hi = ds := by
      unfold cutD
      rw [hl] at hw
      rw [hw.1, hw.2]
      simp
    rw [e] at p
    exact q _ M _ H H1 p tr (Evl.Ex.refl H) iv
  · have t2 := tr.ok.new (o := .tup (cutV vs lo hi)) hl
    exact q _ _ _ _ _ p (tr.trans t2) t2.ex (Dq.tup (SqT.of upd_same) (dpa_mono t2.ex _ _ (cut_dq h2)))
end
end CR

namespace CR
open PySem PySem.Spec PyProof.Rows L2
open Evl (Ex)
theorem Ok.junk {G : Gm} {H H1 : Hp} {M : Mem} {p : Addr} {o : HO} (k : CR.Ok G H H1 M) (hp : H1 p = none) : Tr G ⟨H, H1, M⟩ H (upd H1 p o) M := by
  have kp : ∀ b u, H1 b = some u → upd H1 p o b = some u := fun b u h => by rw [upd_ne (ne_of_none h hp)]; exact h
  exact ⟨⟨fun b u h => kp b u (k.ex b u h), fun a c h => (k.cells a c h).mono (Evl.Ex.refl H) fun b _ u hu => kp b u hu, k.nd, k.out⟩, Evl.Ex.refl H, fun b u h _ => kp b u h, fun _ _ _ => rfl, fun _ h => .inl h⟩
def envS (sc : Scope) : PySem.Env := { scope := sc, locals := 0, globals := 0, cells := [], builtins := 0, frame := none }
theorem sw_env {ts : List Expr} {v : Expr} {env : PySem.Env} : swappedStores ts v env = swappedStores ts v (envS env.scope) := rfl
section
variable {c : Cd} {N : List Str} {sc : Scope} {k : Nat} {Γ : Gx} {M : Mem} {P : D → Mem → Prop} {T : Bool → Mem → Prop} {nx_ : Gx → Mem → Prop} {rt_ : D → Mem → Prop} {bk_ ct_ : Gx → Mem → Prop} {e a b d : Expr} {es : List Expr} {pos apos cpos px py pz pt : Pos} {x y z : Str} {i j l kt k2 : Nat} {pt2 : Pos}
theorem is3 {H : Hp} {vs : List V} {d e f : D} (h : IsAll c.G H vs [d, e, f]) : ∃ v w u, vs = [v, w, u] ∧ Is c.G H v d ∧ Is c.G H w e ∧ Is c.G H u f := by
  match vs, h with
  | [v, w, u], h => exact ⟨v, w, u, rfl, h.1, h.2.1, h.2.2.1⟩
theorem s_par2 [hi : At N x i] [hj : At N y j] (o : c.Ok N sc k) (hij : i ≠ j) (hx : sc.names.lookup x = some .local) (hy : sc.names.lookup y = some .local)
    (hw : swappedStores [.Tuple [.Name x px, .Name y py] kt pt] (.Tuple [a, b] k2 pt2) (envS sc) = pure (some [x, y])) (hs : swapsWithSole [.Tuple [.Name x px, .Name y py] kt pt] (.Tuple [a, b] k2 pt2) pos.line c.X.env = pure false)
    (h : Ea c Γ M [a, b] fun ds M1 => ∃ u v, ds = [u, v] ∧ nx_ ((Γ.set i (some u)).set j (some v)) M1) : Es c Γ M (.Assign [.Tuple [.Name x px, .Name y py] kt pt] (.Tuple [a, b] k2 pt2) pos) ⟨nx_, rt_, bk_, ct_⟩ :=
  s_of (ps_par (i := i) (j := j) o.calm (by rw [o.hN]; exact o.nd) (by rw [o.hN]; exact hi.at_) (by rw [o.hN]; exact hj.at_) hij (by rw [o.esc]; exact hx) (by rw [o.esc]; exact hy) pa_sem (by rw [sw_env, o.esc]; exact hw) hs) fun σ H H1 E tr sl r => h σ H H1 _ tr sl fun ds M1 vs H' H2 p t ex is => by
    obtain ⟨u, v, rfl, p⟩ := p
    obtain ⟨v1, v2, rfl, i1, i2⟩ := is2 is
    exact ⟨v1, v2, rfl, r.nx _ M1 _ H' H2 p t ex (((sl.mono ex).set i i1).set j i2)⟩
theorem s_par3 [hi : At N x i] [hj : At N y j] [hl : At N z l] (o : c.Ok N sc k) (hij : i ≠ j) (hil : i ≠ l) (hjl : j ≠ l) (hx : sc.names.lookup x = some .local) (hy : sc.names.lookup y = some .local) (hz : sc.names.lookup z = some .local)
    (hw : swappedStores [.Tuple [.Name x px, .Name y py, .Name z pz] kt pt] (.Tuple [a, b, d] k2 pt2) (envS sc) = pure (some [x, y, z])) (hs : swapsWithSole [.Tuple [.Name x px, .Name y py, .Name z pz] kt pt] (.Tuple [a, b, d] k2 pt2) pos.line c.X.env = pure false)
    (h : Ea c Γ M [a, b, d] fun ds M1 => ∃ u v w, ds = [u, v, w] ∧ nx_ (((Γ.set i (some u)).set j (some v)).set l (some w)) M1) : Es c Γ M (.Assign [.Tuple [.Name x px, .Name y py, .Name z pz] kt pt] (.Tuple [a, b, d] k2 pt2) pos) ⟨nx_, rt_, bk_, ct_⟩ :=
  s_of (ps_par3 (i := i) (j := j) (l := l) o.calm (by rw [o.hN]; exact o.nd) (by rw [o.hN]; exact hi.at_) (by rw [o.hN]; exact hj.at_) (by rw [o.hN]; exact hl.at_) hij hil hjl (by rw [o.esc]; exact hx) (by rw [o.esc]; exact hy) (by rw [o.esc]; exact hz) pa_sem (by rw [sw_env, o.esc]; exact hw) hs) fun σ H H1 E tr sl r => h σ H H1 _ tr sl fun ds M1 vs H' H2 p t ex is => by
    obtain ⟨u, v, w, rfl, p⟩ := p
    obtain ⟨v1, v2, v3, rfl, i1, i2, i3⟩ := is3 is
    exact ⟨v1, v2, v3, rfl, r.nx _ M1 _ H' H2 p t ex ((((sl.mono ex).set i i1).set j i2).set l i3)⟩
theorem s_tup2 [hi : At N x i] [hj : At N y j] (o : c.Ok N sc k) (hl : L2.Loc sc x) (hf : sc.names.lookup x = some .local ∨ c.lvl = true) (hl2 : L2.Loc sc y) (hf2 : sc.names.lookup y = some .local ∨ c.lvl = true)
    (hw : swappedStores [.Tuple [.Name x px, .Name y py] kt pt] (.Tuple [a, b] k2 pt2) (envS sc) = pure none) (hs : swapsWithSole [.Tuple [.Name x px, .Name y py] kt pt] (.Tuple [a, b] k2 pt2) pos.line c.X.env = pure false)
    (g1 : (assignEach [.Name y py] c.X.env).map (·.2) = assign (.Name y py) c.X.env :: (assignEach [] c.X.env).map (·.2)) (g2 : (assignEach [.Name x px, .Name y py] c.X.env).map (·.2) = assign (.Name x px) c.X.env :: (assignEach [.Name y py] c.X.env).map (·.2))
    (hn : (assignEach [.Name x px, .Name y py] c.X.env).length = 2) (hst : (assignEach [.Name x px, .Name y py] c.X.env).findIdx? (·.1) = none) (g3 : (assignEach [.Tuple [.Name x px, .Name y py] kt pt] c.X.env).map (·.2) = [assign (.Tuple [.Name x px, .Name y py] kt pt) c.X.env])
    (h : Ea c Γ M [a, b] fun ds M1 => ∃ u v, ds = [u, v] ∧ nx_ ((Γ.set i (some u)).set j (some v)) M1) : Es c Γ M (.Assign [.Tuple [.Name x px, .Name y py] kt pt] (.Tuple [a, b] k2 pt2) pos) ⟨nx_, rt_, bk_, ct_⟩ := by
  have n1 : PG c.X (.Name x px) (gName i) := pg_name (by rw [o.hN]; exact o.nd) (by rw [o.hN]; exact hi.at_) (loc_of o hl) (fn_of' o hf)
  have n2 : PG c.X (.Name y py) (gName j) := pg_name (by rw [o.hN]; exact o.nd) (by rw [o.hN]; exact hj.at_) (loc_of o hl2) (fn_of' o hf2)
  refine s_of (ps_asg (pe_tup pa_sem) (pg_tup o.calm (pgs_cons n1 (pgs_cons n2 pgs_nil g1) g2) hn hst) hs (by rw [sw_env, o.esc]; exact hw) g3) fun σ H H1 E tr sl r => h σ H H1 _ tr sl fun ds M1 vs H' H2 p t ex is => ?_
  obtain ⟨u, v, rfl, p⟩ := p
  obtain ⟨v1, v2, rfl, i1, i2⟩ := is2 is
  refine ⟨by show 2 ≤ sizeLine; decide, fun q hq => ?_⟩
  exact ⟨q, _, rfl, SqT.of upd_same, rfl, v1, [v2], rfl, v2, [], rfl, rfl, r.nx _ M1 _ H' _ p (t.trans (t.ok.junk hq)) ex (((sl.mono ex).set i i1).set j i2)⟩
theorem s_tup3 [hi : At N x i] [hj : At N y j] [hz : At N z l] (o : c.Ok N sc k) (hl : L2.Loc sc x) (hf : sc.names.lookup x = some .local ∨ c.lvl = true) (hl2 : L2.Loc sc y) (hf2 : sc.names.lookup y = some .local ∨ c.lvl = true) (hl3 : L2.Loc sc z) (hf3 : sc.names.lookup z = some .local ∨ c.lvl = true)
    (hw : swappedStores [.Tuple [.Name x px, .Name y py, .Name z pz] kt pt] (.Tuple [a, b, d] k2 pt2) (envS sc) = pure none) (hs : swapsWithSole [.Tuple [.Name x px, .Name y py, .Name z pz] kt pt] (.Tuple [a, b, d] k2 pt2) pos.line c.X.env = pure false)
    (g1 : (assignEach [.Name z pz] c.X.env).map (·.2) = assign (.Name z pz) c.X.env :: (assignEach [] c.X.env).map (·.2)) (g2 : (assignEach [.Name y py, .Name z pz] c.X.env).map (·.2) = assign (.Name y py) c.X.env :: (assignEach [.Name z pz] c.X.env).map (·.2))
    (g2' : (assignEach [.Name x px, .Name y py, .Name z pz] c.X.env).map (·.2) = assign (.Name x px) c.X.env :: (assignEach [.Name y py, .Name z pz] c.X.env).map (·.2))
    (hn : (assignEach [.Name x px, .Name y py, .Name z pz] c.X.env).length = 3) (hst : (assignEach [.Name x px, .Name y py, .Name z pz] c.X.env).findIdx? (·.1) = none) (g3 : (assignEach [.Tuple [.Name x px, .Name y py, .Name z pz] kt pt] c.X.env).map (·.2) = [assign (.Tuple [.Name x px, .Name y py, .Name z pz] kt pt) c.X.env])
    (h : Ea c Γ M [a, b, d] fun ds M1 => ∃ u v w, ds = [u, v, w] ∧ nx_ (((Γ.set i (some u)).set j (some v)).set l (some w)) M1) : Es c Γ M (.Assign [.Tuple [.Name x px, .Name y py, .Name z pz] kt pt] (.Tuple [a, b, d] k2 pt2) pos) ⟨nx_, rt_, bk_, ct_⟩ := by
  have n1 : PG c.X (.Name x px) (gName i) := pg_name (by rw [o.hN]; exact o.nd) (by rw [o.hN]; exact hi.at_) (loc_of o hl) (fn_of' o hf)
  have n2 : PG c.X (.Name y py) (gName j) := pg_name (by rw [o.hN]; exact o.nd) (by rw [o.hN]; exact hj.at_) (loc_of o hl2) (fn_of' o hf2)
  have n3 : PG c.X (.Name z pz) (gName l) := pg_name (by rw [o.hN]; exact o.nd) (by rw [o.hN]; exact hz.at_) (loc_of o hl3) (fn_of' o hf3)
  refine s_of (ps_asg (pe_tup pa_sem) (pg_tup o.calm (pgs_cons n1 (pgs_cons n2 (pgs_cons n3 pgs_nil g1) g2) g2') hn hst) hs (by rw [sw_env, o.esc]; exact hw) g3) fun σ H H1 E tr sl r => h σ H H1 _ tr sl fun ds M1 vs H' H2 p t ex is => ?_
  obtain ⟨u, v, w, rfl, p⟩ := p
  obtain ⟨v1, v2, v3, rfl, i1, i2, i3⟩ := is3 is
  refine ⟨by show 3 ≤ sizeLine; decide, fun q hq => ?_⟩
  exact ⟨q, _, rfl, SqT.of upd_same, rfl, v1, [v2, v3], rfl, v2, [v3], rfl, v3, [], rfl, rfl, r.nx _ M1 _ H' _ p (t.trans (t.ok.junk hq)) ex ((((sl.mono ex).set i i1).set j i2).set l i3)⟩
theorem e_isiTL {p1 p2 p3 p4 : Pos} {kq : Nat} {e0 : Expr} (o : c.Ok N sc k) (hm : c.m.mg "isinstance" = none) (hm1 : c.m.mg "tuple" = none) (hm2 : c.m.mg "list" = none) (hg : sc.names.lookup ("isinstance" : Str) = some .globalImplicit) (hg1 : sc.names.lookup ("tuple" : Str) = some .globalImplicit) (hg2 : sc.names.lookup ("list" : Str) = some .globalImplicit)
    (he : starEach [e0, .Tuple [.Name "tuple" p2, .Name "list" p3] kq p4] c.X.env = (false, eval e0 c.X.env) :: starEach [.Tuple [.Name "tuple" p2, .Name "list" p3] kq p4] c.X.env) (he2 : starEach [.Tuple [.Name "tuple" p2, .Name "list" p3] kq p4] c.X.env = (false, eval (.Tuple [.Name "tuple" p2, .Name "list" p3] kq p4) c.X.env) :: starEach [] c.X.env) (hpl : (backTo pos (starEach [.Tuple [.Name "tuple" p2, .Name "list" p3] kq p4] c.X.env)).any (·.1) = false)
    (h3 : starEach [.Name "tuple" p2, .Name "list" p3] c.X.env = (false, eval (.Name "tuple" p2) c.X.env) :: starEach [.Name "list" p3] c.X.env) (h4 : starEach [.Name "list" p3] c.X.env = (false, eval (.Name "list" p3) c.X.env) :: starEach [] c.X.env)
    (h : Ee c Γ M e0 fun d M1 => ∃ x : PyData, Rdd M1 d x ∧ P (dB (isI x "tuple" || isI x "list")) M1) : Ee c Γ M (.Call (.Name "isinstance" p1) [e0, .Tuple [.Name "tuple" p2, .Name "list" p3] kq p4] [] pos) P :=
  e_of (pe_callB (id := "isinstance") (call_isiT (X := c.X)) (gl_of o hg) (by rw [o.mg]; exact hm) (by decide +kernel) (pa_cons pe_sem (pa_cons (pe_tup (pa_cons (pe_bltn (v := .ty "tuple") (gl_of o hg1) (by rw [o.mg]; exact hm1) (by decide +kernel) rfl) (pa_cons (pe_bltn (v := .ty "list") (gl_of o hg2) (by rw [o.mg]; exact hm2) (by decide +kernel) rfl) pa_nil h4) h3)) pa_nil he2) he) (by decide) (by decide) he hpl) fun σ H H1 Q tr sl q => h σ H H1 _ tr sl fun d M1 v H' H2 p1 tr1 e1 i1 => by
    obtain ⟨x, r, p1⟩ := p1
    refine ⟨by show 2 ≤ sizeLine; decide, fun a ha => ?_⟩
    have t2 := tr1.trans (tr1.ok.junk (o := .tup [V.ty "tuple", V.ty "list"]) ha)
    have k1 : PySem.W.kitOne c.X.K (.type (tyN x)) (.type "tuple") = some (isI x "tuple") := by rw [← isiB_eq x (by decide)]; exact kit_isi x (by decide)
    have k2 : PySem.W.kitOne c.X.K (.type (tyN x)) (.type "list") = some (isI x "list") := by rw [← isiB_eq x (by decide)]; exact kit_isi x (by decide)
    refine ⟨v, a, _, .type (tyN x), [.type "tuple", .type "list"], isI x "tuple" || isI x "list", rfl, upd_same, .cons (.ty "tuple") (.cons (.ty "list") .nil), ?_, ?_, q _ M1 _ H' _ p1 t2 e1 (Dq.bl _)⟩
    · rw [show c.X.K = c.G.K from o.K]; exact ty_of (rd_dp t2 i1 r)
    · refine kitAny_cons k1 (fun z => ?_) fun z => by rw [z]; rfl
      rw [z, Bool.false_or]
      exact kitAny_cons k2 (fun z => by rw [z]; rfl) fun z => z
end
end CR

namespace CR
open PySem PySem.Spec PyProof.Rows L2
open Evl (Ex)
theorem beq_dec {α : Type} [BEq α] [LawfulBEq α] [DecidableEq α] (a b : α) : (a == b) = decide (a = b) := by
  rw [Bool.eq_iff_iff, beq_iff_eq, decide_eq_true_eq]
structure Cdc (α : Type) [DecidableEq α] where
  d : α → PyData
  lay : ∀ a, (d a).canLay0 = true
  n : Nat
  dep : ∀ a, (d a).depth ≤ n
  eqv : ∀ a b, PyData.eqv (d a) (d b) = decide (a = b)
section
variable {α β : Type} [DecidableEq α] [DecidableEq β]
def iC : Cdc Int where
  d := .int
  lay _ := rfl
  n := 0
  dep _ := Nat.le_refl _
  eqv a b := by simp only [PyData.eqv]; exact beq_dec a b
def bC : Cdc Bool where
  d := .bool
  lay _ := rfl
  n := 0
  dep _ := Nat.le_refl _
  eqv a b := by simp only [PyData.eqv]; exact beq_dec a b
theorem lay_all (C : Cdc α) : ∀ xs : List α, PyData.canLayAll0 (xs.map C.d) = true
  | [] => rfl
  | x :: xs => by rw [List.map_cons, PyData.canLayAll0, C.lay, lay_all C xs]; rfl
theorem dep_all (C : Cdc α) : ∀ xs : List α, PyData.depthAll (xs.map C.d) ≤ C.n
  | [] => Nat.zero_le _
  | x :: xs => by rw [List.map_cons, PyData.depthAll]; exact Nat.max_le.mpr ⟨C.dep x, dep_all C xs⟩
theorem eqv_all (C : Cdc α) : ∀ xs ys : List α, PyData.eqvAll (xs.map C.d) (ys.map C.d) = decide (xs = ys)
  | [], [] => by simp only [List.map_nil, PyData.eqvAll, decide_true]
  | [], _ :: _ => by simp [PyData.eqvAll]
  | _ :: _, [] => by simp [PyData.eqvAll]
  | x :: xs, y :: ys => by
    rw [List.map_cons, List.map_cons, PyData.eqvAll, C.eqv x y, eqv_all C xs ys, ← Bool.decide_and]
    exact decide_eq_decide.mpr (by rw [List.cons.injEq])
def lC (C : Cdc α) : Cdc (List α) where
  d xs := .list (xs.map C.d)
  lay xs := by simp only [PyData.canLay0]; exact lay_all C xs
  n := C.n + 1
  dep xs := by simp only [PyData.depth]; exact Nat.succ_le_succ (dep_all C xs)
  eqv xs ys := by simp only [PyData.eqv]; exact eqv_all C xs ys
def tC (C : Cdc α) : Cdc (List α) where
  d xs := .tuple (xs.map C.d)
  lay xs := by simp only [PyData.canLay0]; exact lay_all C xs
  n := C.n + 1
  dep xs := by simp only [PyData.depth]; exact Nat.succ_le_succ (dep_all C xs)
  eqv xs ys := by simp only [PyData.eqv]; exact eqv_all C xs ys
def pC (C : Cdc α) (E : Cdc β) : Cdc (α × β) where
  d p := .tuple [C.d p.1, E.d p.2]
  lay p := by simp only [PyData.canLay0, PyData.canLayAll0, C.lay, E.lay]; rfl
  n := max C.n E.n + 1
  dep p := by
    simp only [PyData.depth, PyData.depthAll]
    exact Nat.succ_le_succ (Nat.max_le.mpr ⟨Nat.le_trans (C.dep p.1) (Nat.le_max_left _ _), Nat.max_le.mpr ⟨Nat.le_trans (E.dep p.2) (Nat.le_max_right _ _), Nat.zero_le _⟩⟩)
  eqv p q := by
    simp only [PyData.eqv, PyData.eqvAll]
    rw [C.eqv, E.eqv, Bool.and_true, ← Bool.decide_and]
    exact decide_eq_decide.mpr ⟨fun e => Prod.ext e.1 e.2, fun e => by rw [e]; exact ⟨rfl, rfl⟩⟩
theorem Cdc.shaped (C : Cdc α) (hn : Nat.ble C.n 64 = true) (a : α) : SeqAt.shaped (C.d a) = true := by
  unfold SeqAt.shaped
  rw [C.lay, Bool.true_and, decide_eq_true_eq]
  exact Nat.le_trans (C.dep a) (Nat.le_of_ble_eq_true hn)
theorem any_c (C : Cdc α) (xs : List α) (x : α) : (xs.map C.d).any (fun y => PyData.eqv y (C.d x)) = decide (x ∈ xs) := by
  induction xs with
  | nil => rfl
  | cons y ys ih =>
    rw [List.map_cons, List.any_cons, ih, C.eqv, ← Bool.decide_or]
    exact decide_eq_decide.mpr (by rw [List.mem_cons, eq_comm])
theorem erase_map {α β : Type} (f : α → β) : ∀ (xs : List α) (i : Nat), (xs.map f).eraseIdx i = (xs.eraseIdx i).map f
  | [], _ => rfl
  | _ :: _, 0 => rfl
  | x :: xs, i + 1 => congrArg (f x :: ·) (erase_map f xs i)
theorem perm_erase {α : Type} : ∀ {xs : List α} {i : Nat} (h : i < xs.length), xs.Perm (xs[i] :: xs.eraseIdx i)
  | [], _, h => absurd h (Nat.not_lt_zero _)
  | _ :: _, 0, _ => .refl _
  | x :: xs, i + 1, h => (List.Perm.cons x (perm_erase (xs := xs) (i := i) (Nat.lt_of_succ_lt_succ h))).trans (.swap ..)
abbrev sD (s : List Int) : PyData := .tuple (s.map .int)
abbrev ssD (ss : List (List Int)) : PyData := .tuple (ss.map sD)
abbrev sC : Cdc (List Int) := tC iC
abbrev ssC : Cdc (List (List Int)) := tC sC
end
section
variable {c : Cd} {N : List Str} {sc : Scope} {k : Nat} {Γ : Gx} {M : Mem} {P : D → Mem → Prop} {x y : D} {α : Type} [DecidableEq α]
theorem oe_c (C : Cdc α) (a b : α) (hx : Rdd M x (C.d a)) (hy : Rdd M y (C.d b)) (hn : Nat.ble C.n 64 = true) (p : P (dB (decide (a = b))) M) : O2 c (rEqA c) x y M P :=
  oe_dat hx hy (C.shaped hn a) (C.shaped hn b) (by rw [C.eqv]; exact p)
theorem on_c (C : Cdc α) (a b : α) (hx : Rdd M x (C.d a)) (hy : Rdd M y (C.d b)) (hn : Nat.ble C.n 64 = true) (p : P (dB (!decide (a = b))) M) : O2 c (rNeA c.m.K) x y M P :=
  on_dat hx hy (C.shaped hn a) (C.shaped hn b) (by rw [C.eqv]; exact p)
end
end CR

namespace CR
open PySem PySem.Spec PyProof.Rows L2
open Evl (Ex)
theorem fn_lift {P : Program} {w : World} {K : PySem.W.Frag} {mg : Str → Option Value} {base : Heap} {CX : CXT} {k : Nat} {f : Addr} {fd : FuncData} {ps : List Str} {sp : Sp} (F : FnOk P w K mg base CX0 k f fd ps sp) : FnOk P w K mg base CX k f fd ps sp :=
  ⟨F.len, fun A outer s H args us vs Q E hr he hb hv hs => codeAny_mono (F.run A outer s H args us vs Q E hr he hb hv hs) fun r s' h => by
    cases r with
    | error e => exact False.elim h
    | ok fl => cases fl <;> exact h⟩
theorem fd_lift {m : Md} {k : Nat} {x : Str} {φ : Phi} (F : Fd m CX0 k x φ) : Fd m (L2.CX m.P m.w) k x φ := by
  obtain ⟨f, fd, ps, h1, h2⟩ := F.ex
  exact ⟨f, fd, ps, fn_lift h1, h2⟩
abbrev CXm (m : Md) : CXT := L2.CX m.P m.w
structure ClsS (m : Md) : Prop where
  cls : Cls m.K m.C
  nr : NoAttr m.K m.C "readings"
  g : m.mg "Script" = some (.ref m.C)
  ca : PySem.W.findIn m.K (.ref m.C) "__class__" = some (some (.builtin "object.__class__"))
  cn : PySem.W.specialIn m.K (.builtin "object.__class__") "__get__" = some (some (.builtin "getset_descriptor.__get__"))
  ct : PySem.W.takesIn m.K (.builtin "object.__class__") = some true
  cm : PySem.W.mroIn m.K m.C (.type "object") = some true
structure FnA (m : Md) (k : Nat) (f : Addr) (φ : Phi) : Prop where
  ex : ∃ (fd : FuncData) (ps : List Str), FnOk m.P m.w m.K m.mg m.base (CXm m) k f fd ps (spOf m.G φ) ∧ Binds m.K fd ps []
structure MkS (m : Md) (k : Nat) (φ : Phi) : Prop where
  ex : ∃ f, Mk m.K m.C f ∧ FnA m k f φ
structure PrS (m : Md) (k : Nat) (x : Str) (φ : Phi) : Prop where
  ex : ∃ p f, PropOf m.K m.C x p f ∧ FnA m k f φ
structure SpS (m : Md) (k : Nat) (x : Str) (φ : Phi) : Prop where
  ex : ∃ f, PySem.W.findIn m.K (.ref m.C) x = some (some (.ref f)) ∧ PySem.W.isFn m.K (.ref f) = true ∧ FnA m k f φ
section
variable {X : Cx} {pins : List (Addr × Obj)} {σ : L2.St} {H : Hp} {s : Shared}
theorem run_in {A : Around} {CX : CXT} {k : Nat} {f : Addr} {fd : FuncData} {ps : List Str} {sp : Sp} {E : XK} {Q : VK} {us : List Value} {vs : List V} (F : FnOk X.prog X.w X.K X.mg X.base CX k f fd ps sp) (hr : Room k A) (e0 : Env0 X.prog X.w X.K X.mg X.base A X.stack s H) (hb : Binds X.K fd ps [])
    (hx : PassesAt CX X σ E) (I : Inv X pins σ H s) (r : Vals vs us) (h : sp vs H Q E) : wpAny (model X.prog X.w) A (call (.ref f) us) (EP X pins σ Q) X.xe s := by
  have hl : us.length = ps.length := by rw [← r.length]; exact F.len _ _ _ _ h
  have b := hb s us I.kIn (by rw [List.append_nil]; exact hl)
  rw [List.append_nil] at b
  refine wpAny_call (codeAny_mono (F.run A X.stack s H ⟨us, []⟩ us vs Q E hr e0 b r h) fun r s' hq => ?_)
  cases r with
  | error e => exact hx pins H s e s' I hq
  | ok fl =>
    cases fl with
    | ret u => exact I.after hq
    | next => exact False.elim hq
    | brk => exact False.elim hq
    | cont => exact False.elim hq
end
section
variable {c : Cd} {N : List Str} {sc : Scope} {k j : Nat} {Γ : Gx} {M : Mem} {P : D → Mem → Prop} {T : Bool → Mem → Prop} {nx_ : Gx → Mem → Prop} {rt_ : D → Mem → Prop} {bk_ ct_ : Gx → Mem → Prop} {e a b : Expr} {es : List Expr} {pos apos cpos p : Pos} {x y : D} {st : PyData} {φ : Phi}
theorem e_rdg (S : ClsS c.m) (o : c.Ok N sc k) (hb : attributeBase e "readings" c.X.env (eval e c.X.env) = eval e c.X.env) (h : Ee c Γ M e fun d M1 => ∃ st, d = .scr st ∧ P (.p st) M1) : Ee c Γ M (.Attribute e "readings" pos) P :=
  e_of (pe_fld pe_sem hb) fun σ H H1 Q tr sl q => h σ H H1 _ tr sl fun d M1 v H' H2 p1 tr1 e1 i1 => by
    obtain ⟨st, rfl, p1⟩ := p1
    obtain ⟨a, dx, r, rfl, h1, h2⟩ := i1
    exact ⟨a, c.m.C, dx, _, r, rfl, tr1.ok.ex _ _ h1, by rw [o.K]; exact S.cls, by rw [o.K]; exact S.nr, rfl, q _ M1 _ H' H2 p1 tr1 e1 h2⟩
theorem s_rdg (S : ClsS c.m) (o : c.Ok N sc k) {pos' : Pos} (hs : swapsWith b (some (.Attribute e "readings" pos')) pos.line c.X.env = pure false)
    (h : Ee c Γ M b fun d M1 => ∃ st, d = .p st ∧ Ee c Γ M1 e fun u M2 => ∃ i x dx, u = .own x ∧ M2[i]? = some (x, .ins c.m.C dx []) ∧ nx_ Γ (M2.set i (x, .ins c.m.C dx [("readings", .p st)]))) :
    Es c Γ M (.Assign [.Attribute e "readings" pos'] b pos) ⟨nx_, rt_, bk_, ct_⟩ :=
  s_of (ps_fld pe_sem pe_sem hs) fun σ H H1 E tr sl r => h σ H H1 _ tr sl fun d M1 v H' H2 p1 tr1 e1 i1 => by
    obtain ⟨st, rfl, p1⟩ := p1
    refine p1 σ H' H2 _ tr1 (sl.mono e1) fun u M2 w H3 H4 p3 tr3 e3 i3 => ?_
    obtain ⟨i, x, dx, rfl, hi, p3⟩ := p3
    have i1 := i1.mono e3
    obtain ⟨fs, h1, h2, h3⟩ := tr3.ok.cells _ _ (List.mem_of_getElem? hi)
    cases h3
    refine ⟨x, c.m.C, dx, [], i3, h1, by rw [o.K]; exact S.cls, by rw [o.K]; exact S.nr, by decide, ?_⟩
    have hne : dx ≠ x := fun z => by rw [z, h1] at h2; cases h2
    have t4 := tr3.ok.put (i := i) (c' := .ins c.m.C dx [("readings", .p st)]) (H2 := upd H4 x (.ins c.m.C dx (putF "readings" v []))) hi rfl (fun b o hb hq => by
      rw [upd_ne (by simp [fp1] at hb; exact hb.1)]; exact hq) ⟨[("readings", v)], upd_same, by rw [upd_ne hne]; exact h2, .cons ⟨rfl, i1⟩ .nil⟩
    exact r.nx _ _ _ _ _ p3 (tr3.trans t4) ((e1.trans e3).trans t4.ex) ((sl.mono (e1.trans e3)).mono t4.ex)
theorem Ok.made {G : Gm} {H H1 : Hp} {M : Mem} {x dx : Addr} (k : CR.Ok G H H1 M) (hx : H1 x = none) (hd : H1 dx = none) (hne : dx ≠ x) : Tr G ⟨H, H1, M⟩ H (upd (upd H1 dx (.own x)) x (.ins G.C dx [])) ((x, .ins G.C dx []) :: M) := by
  have kp : ∀ b u, H1 b = some u → upd (upd H1 dx (.own x)) x (.ins G.C dx []) b = some u := fun b u h => by rw [upd_ne (ne_of_none h hx), upd_ne (ne_of_none h hd)]; exact h
  have ef : fp ((x, Cell.ins G.C dx []) :: M) = x :: dx :: fp M := by unfold fp; rw [List.flatMap_cons]; rfl
  refine ⟨⟨fun b u h => kp b u (k.ex b u h), fun a d h => ?_, ?_, fun b hb => ?_⟩, Evl.Ex.refl H, fun b u h _ => kp b u h, fun b h hm => rfl, fun b h => ?_⟩
  · rcases List.mem_cons.mp h with e | h
    · cases e
      exact ⟨[], upd_same, by rw [upd_ne hne, upd_same], .nil⟩
    · exact (k.cells a d h).mono (Evl.Ex.refl H) fun b _ u hu => kp b u hu
  · rw [ef]
    exact List.nodup_cons.mpr ⟨fun z => by
      rcases List.mem_cons.mp z with e | z
      · exact hne e.symm
      · exact k.fresh hx z, List.nodup_cons.mpr ⟨k.fresh hd, k.nd⟩⟩
  · rw [ef] at hb
    rcases List.mem_cons.mp hb with e | hb
    · subst e; exact k.freshH hx
    · rcases List.mem_cons.mp hb with e | hb
      · subst e; exact k.freshH hd
      · exact k.out b hb
  · rw [ef] at h
    rcases List.mem_cons.mp h with e | h
    · subst e; exact .inr hx
    · rcases List.mem_cons.mp h with e | h
      · subst e; exact .inr hd
      · exact .inl h
abbrev mkP (C : Addr) (x dx : Addr) (P : D → Mem → Prop) : D → Mem → Prop := fun d M2 => d = dN ∧ ∃ i st, M2[i]? = some (x, Cell.ins C dx [("readings", .p st)]) ∧ P (.scr st) (M2.eraseIdx i)
theorem e_mk (F : MkS c.m j φ) (S : ClsS c.m) (o : c.Ok N sc k) (hj : j + 1 ≤ k) (hg : sc.names.lookup ("Script" : Str) = some .globalImplicit)
    (he : starEach (e :: es) c.X.env = (false, eval e c.X.env) :: starEach es c.X.env) (hpl : (backTo pos (starEach es c.X.env)).any (·.1) = false)
    (h : Ea c Γ M (e :: es) fun ds M1 => ∀ x dx, φ (.own x :: ds) ((x, .ins c.m.C dx []) :: M1) (mkP c.m.C x dx P) NoR) : Ee c Γ M (.Call (.Name "Script" p) (e :: es) [] pos) P := by
  obtain ⟨f, Mk, fd, ps, F, hb⟩ := F.ex
  have F' : FnOk c.X.prog c.X.w c.X.K c.X.mg c.X.base (L2.CX c.X.prog c.X.w) j f fd ps (spOf c.G φ) := by rw [o.prog, o.ew, o.K, o.mg, o.base]; exact F
  refine e_of (pe_make (dvs := []) (E := E0) (by rw [o.K]; exact Mk) F' (o.room.mono hj) (gl_of o hg) (by rw [o.mg]; exact S.g) (by rw [o.K]; exact hb) .nil passL pa_sem (by decide) he hpl) fun σ H H1 Q tr sl q => h σ H H1 _ tr sl fun ds M1 vs H' H2 p1 tr1 e1 i1 => ?_
  intro x dx hx hd hne
  have t2 := tr1.ok.made hx hd hne
  refine ⟨H', _, .own x :: ds, _, NoR, t2.ok, by rw [List.append_nil]; exact ⟨rfl, i1⟩, p1 x dx, fun d M' v H3 H4 p3 t3 i3 => ?_, fun _ _ _ _ _ _ _ z => z.elim⟩
  obtain ⟨rfl, i, st, hi, p3⟩ := p3
  refine ⟨i3.non, ?_⟩
  obtain ⟨H5, t5, i5⟩ := t3.ok.freezeScr hi
  exact q _ _ _ _ _ p3 (((tr1.trans t2).trans t3).trans t5) ((e1.trans t3.ex).trans t5.ex) i5
theorem e_mkX (F : MkS c.m j φ) (S : ClsS c.m) (o : c.Ok N sc k) (hj : j + 1 ≤ k) (hg : sc.names.lookup ("Script" : Str) = some .globalImplicit)
    (he : starEach (e :: es) c.X.env = (false, eval e c.X.env) :: starEach es c.X.env) (hpl : (backTo pos (starEach es c.X.env)).any (·.1) = false)
    (h : Ea c Γ M (e :: es) fun ds M1 => ∀ x dx, φ (.own x :: ds) ((x, .ins c.m.C dx []) :: M1) (mkP c.m.C x dx P) fun C fs M' => c.R C fs Γ M') : Ee c Γ M (.Call (.Name "Script" p) (e :: es) [] pos) P := by
  obtain ⟨f, Mk, fd, ps, F, hb⟩ := F.ex
  have F' : FnOk c.X.prog c.X.w c.X.K c.X.mg c.X.base (L2.CX c.X.prog c.X.w) j f fd ps (spOf c.G φ) := by rw [o.prog, o.ew, o.K, o.mg, o.base]; exact F
  have Mk' : L2.Mk c.X.K c.m.C f := by rw [o.K]; exact Mk
  intro σ H H1 Q tr sl q pins s I
  refine wpAny_Call_Name_kw (ld_glob I (gl_of o hg) (by rw [o.mg]; exact S.g) ?_ (by decide))
  refine PySem.W.callWith_K (h₀ := c.X.base) I.ok.mod.kin Mk'.kp (thn (pa_sem.run pos pins s σ H1 _ I (h σ H H1 (fun vs Hx => ∀ x dx, Hx x = none → Hx dx = none → dx ≠ x → spOf c.G φ (.ref x :: vs) (upd (upd Hx dx (.own x)) x (.ins c.m.C dx [])) (fun v H2 => v = .non ∧ Q (.ref x) H2) (WE c.W σ)) tr sl fun ds M1 vs H' H2 p1 tr1 e1 i1 => ?_)) fun us s1 ⟨vs, H1, I1, r, q⟩ => ⟨I1.kIn, ?_⟩) he hpl
  · intro x dx hx hd hne
    have t2 := tr1.ok.made hx hd hne
    refine ⟨H', _, .own x :: ds, _, _, t2.ok, ⟨rfl, i1⟩, p1 x dx, fun d M' v H3 H4 p3 t3 i3 => ?_, fun C fs M' cls dd H3 H4 r t3 x => ?_⟩
    · obtain ⟨rfl, i, st, hi, p3⟩ := p3
      refine ⟨i3.non, ?_⟩
      obtain ⟨H5, t5, i5⟩ := t3.ok.freezeScr hi
      exact q _ _ _ _ _ p3 (((tr1.trans t2).trans t3).trans t5) ((e1.trans t3.ex).trans t5.ex) i5
    · exact o.hR C fs Γ M' σ H3 H4 cls dd r ((tr1.trans t2).trans t3) (sl.mono (e1.trans t3.ex)) x
  · have hq := q (s1.heap.objs.size + 1) s1.heap.objs.size (I1.hok.fresh (Nat.le_succ _)) (I1.hok.fresh (Nat.le_refl _)) (Nat.ne_of_lt (Nat.lt_succ_self _))
    have I2 := Inv.made (C := c.m.C) I1
    have r2 : Vals (V.ref (s1.heap.objs.size + 1) :: vs) (Value.ref (s1.heap.objs.size + 1) :: us) := .cons rfl r
    have hl : (Value.ref (s1.heap.objs.size + 1) :: us).length = ps.length := by
      have e := r2.length
      rw [F.len _ _ _ _ hq] at e
      exact e.symm
    have hb' : Binds c.X.K fd ps [] := by rw [o.K]; exact hb
    have b := hb' _ (Value.ref (s1.heap.objs.size + 1) :: us) I2.kIn (by rw [List.append_nil]; exact hl)
    rw [List.append_nil] at b
    refine wpAny_call (make_map (f := f) I1.kIn Mk'.makes Mk'.init (beq_iff_eq.mp Mk'.fn) (codeAny_mono (F'.run _ c.X.stack _ _ ⟨Value.ref (s1.heap.objs.size + 1) :: us, []⟩ (Value.ref (s1.heap.objs.size + 1) :: us) _ _ (WE c.W σ) ((o.room.mono hj).make c.m.C us [])
      (I2.env0.make c.m.C us []) b r2 hq) fun r s' hq' => ?_))
    cases r with
    | error e => exact passAt o.tk σ pins _ _ e s' I2 hq'
    | ok fl =>
      cases fl with
      | ret u =>
        obtain ⟨v, H', I3, rv, ev, q3⟩ := I2.after hq'
        subst ev
        exact ⟨rv, ⟨V.ref (s1.heap.objs.size + 1), H', I3, rfl, q3⟩⟩
      | next => exact False.elim hq'
      | brk => exact False.elim hq'
      | cont => exact False.elim hq'
theorem e_prop {f : Str} (F : PrS c.m j f φ) (S : ClsS c.m) (o : c.Ok N sc k) (hj : j + 1 ≤ k) (hb : attributeBase e f c.X.env (eval e c.X.env) = eval e c.X.env) (h : Ee c Γ M e fun d M1 => (∃ st, d = .scr st) ∧ φ [d] M1 P NoR) : Ee c Γ M (.Attribute e f pos) P := by
  obtain ⟨pp, g, hp, fd, ps, F, hB⟩ := F.ex
  have F' : FnOk c.X.prog c.X.w c.X.K c.X.mg c.X.base (L2.CX c.X.prog c.X.w) j g fd ps (spOf c.G φ) := by rw [o.prog, o.ew, o.K, o.mg, o.base]; exact F
  refine e_of (pe_prop (dvs := []) (E := E0) pe_sem (by rw [o.K]; exact S.cls) (by rw [o.K]; exact hp) F' (o.room.mono hj) (by rw [o.K]; exact hB) .nil (fun pins σ H s e s' I h => by
    obtain ⟨_, _, _, _, _, _, _, _, _, _, _, _, z⟩ := h
    exact z.elim) hb) fun σ H H1 Q tr sl q => h σ H H1 _ tr sl fun d M1 v H' H2 p1 tr1 e1 i1 => ?_
  obtain ⟨⟨st, rfl⟩, p1⟩ := p1
  obtain ⟨a, dx, r, rfl, h1, h2⟩ := id i1
  exact ⟨a, dx, _, rfl, tr1.ok.ex _ _ h1, H', M1, [.scr st], P, NoR, tr1.ok, ⟨i1, trivial⟩, p1, fun d M' v H3 H4 p3 t3 i3 => q d M' v H3 H4 p3 (tr1.trans t3) (e1.trans t3.ex) i3, fun _ _ _ _ _ _ _ z => z.elim⟩
theorem noPassE {X : Cx} {σ : L2.St} : PassesAt (L2.CX X.prog X.w) X σ E0 := fun pins H s e s' I h => by
  obtain ⟨_, _, _, _, _, _, _, _, _, _, _, _, z⟩ := h
  exact z.elim
theorem c_lenScr (F : SpS c.m j "__len__" φ) (o : c.Ok N sc k) (hj : j + 1 ≤ k) (h : φ [.scr st] M (fun d M' => ∃ n : Nat, d = dI n ∧ n < 100000 ∧ P d M') NoR) : OL c (rLen c) [.scr st] M P := fun H H1 vs Q tr iv q => by
  obtain ⟨f, hs, hf, fd, ps, F, hB⟩ := F.ex
  have F' : FnOk c.X.prog c.X.w c.X.K c.X.mg c.X.base (L2.CX c.X.prog c.X.w) j f fd ps (spOf c.G φ) := by rw [o.prog, o.ew, o.K, o.mg, o.base]; exact F
  obtain ⟨v, rfl, i1⟩ := is1 iv
  obtain ⟨a, dx, r, rfl, h1, h2⟩ := id i1
  refine .inr fun pins s σ us I rs => ?_
  obtain ⟨u, rfl, ru⟩ := rs.one
  cases (show u = Value.ref a from ru)
  obtain ⟨mA, J, _⟩ := ins_get I.hok (tr.ok.ex _ _ h1)
  obtain ⟨od, J, _⟩ := J.look
  obtain ⟨m, hF⟩ := I.fr
  refine PySem.W.len_K hF I.ok.mod.kin J (by rw [o.K]; exact hs) (by rw [o.K]; exact hf) (wpAny_mono (run_in (E := E0) F' (o.room.mono hj).in1 I.env0.in1 (by rw [o.K]; exact hB) noPassE I (vs := [V.ref a]) (.cons rfl .nil)
    (Q := fun z H' => ∃ n : Nat, z = .int n ∧ n < 100000 ∧ Q z H') ⟨H, M, [.scr st], _, NoR, tr.ok, ⟨i1, trivial⟩, h, fun d M' v H3 H4 p3 t3 i3 => ?_, fun _ _ _ _ _ _ _ z => z.elim⟩) (fun w s' z => ?_) fun _ _ x => x)
  · obtain ⟨n, rfl, hn, p3⟩ := p3
    exact ⟨n, i3.int, hn, q _ M' _ H3 H4 p3 (tr.trans t3) t3.ex i3⟩
  · obtain ⟨z', H', I', rz, n, rfl, hn, qz⟩ := z
    obtain ⟨t, e⟩ := (show ∃ t, w = Value.int n t from rz)
    cases e
    exact ⟨⟨by omega, by omega⟩, .int n, H', I'.tok _, ⟨_, rfl⟩, qz⟩
theorem oe_scr {st' : PyData} (F : SpS c.m j "__eq__" φ) (o : c.Ok N sc k) (hj : j ≤ k) (h : φ [.scr st, .scr st'] M P NoR) : O2 c (rEqA c) (.scr st) (.scr st') M P := fun H H1 v u Q tr iv iu q => by
  obtain ⟨f, hs, hf, fd, ps, F, hB⟩ := F.ex
  have F' : FnOk c.X.prog c.X.w c.X.K c.X.mg c.X.base (L2.CX c.X.prog c.X.w) j f fd ps (spOf c.G φ) := by rw [o.prog, o.ew, o.K, o.mg, o.base]; exact F
  obtain ⟨a, dx, r, rfl, h1, h2⟩ := id iv
  obtain ⟨b, dy, r', rfl, h3, h4⟩ := id iu
  refine .inr (.inr fun pins s σ v' u' I rv ru => ?_)
  cases (show v' = Value.ref a from rv)
  cases (show u' = Value.ref b from ru)
  obtain ⟨mA, J, _⟩ := ins_get I.hok (tr.ok.ex _ _ h1)
  obtain ⟨mB, J', _⟩ := ins_get I.hok (tr.ok.ex _ _ h3)
  obtain ⟨od, J, _⟩ := J.look
  obtain ⟨od', J', _⟩ := J'.look
  obtain ⟨m, hF⟩ := I.fr
  have hr := o.room.mono hj
  refine PySem.W.cmp_K (op := .Eq) (tb := .ref c.m.C) hr.units0 hF I.ok.mod.kin J J'.type (by simp [PySem.W.notFirst]) (by rw [o.K]; exact hs) (by rw [o.K]; exact hf)
    (wpAny_mono (run_in (E := E0) F' hr I.env0 (by rw [o.K]; exact hB) noPassE I (vs := [V.ref a, V.ref b]) (.cons rfl (.cons rfl .nil)) (Q := Q) ⟨H, M, [.scr st, .scr st'], P, NoR, tr.ok, ⟨iv, iu, trivial⟩, h, fun d M' v H3 H4 p3 t3 i3 => ?_, fun _ _ _ _ _ _ _ z => z.elim⟩) (fun w s' z => ?_) fun _ _ x => x)
  · exact q _ M' _ H3 H4 p3 (tr.trans t3) t3.ex i3
  · obtain ⟨z', H', I', rz, qz⟩ := z
    exact SlX.cmpback rz ⟨z', H', I', rz, qz⟩
theorem oa_scr {st' : PyData} (F : SpS c.m j "__add__" φ) (hsf : PySem.W.selfFirst c.m.K c.m.C = true) (o : c.Ok N sc k) (hj : j ≤ k) (h : φ [.scr st, .scr st'] M P NoR) : O2 c (rAdd c) (.scr st) (.scr st') M P := fun H H1 v u Q tr iv iu q => by
  obtain ⟨f, hs, hf, fd, ps, F, hB⟩ := F.ex
  have F' : FnOk c.X.prog c.X.w c.X.K c.X.mg c.X.base (L2.CX c.X.prog c.X.w) j f fd ps (spOf c.G φ) := by rw [o.prog, o.ew, o.K, o.mg, o.base]; exact F
  obtain ⟨a, dx, r, rfl, h1, h2⟩ := id iv
  obtain ⟨b, dy, r', rfl, h3, h4⟩ := id iu
  refine .inr (.inr (.inr (.inr fun pins s σ v' u' I rv ru => ?_)))
  cases (show v' = Value.ref a from rv)
  cases (show u' = Value.ref b from ru)
  obtain ⟨mA, J, _⟩ := ins_get I.hok (tr.ok.ex _ _ h1)
  obtain ⟨mB, J', _⟩ := ins_get I.hok (tr.ok.ex _ _ h3)
  obtain ⟨od, J, _⟩ := J.look
  obtain ⟨od', J', _⟩ := J'.look
  obtain ⟨m, hF⟩ := I.fr
  have hr := o.room.mono hj
  refine PySem.W.binop_K (op := .Add) hF I.ok.mod.kin J J'.type (by rw [o.K]; exact hsf) (by rw [o.K]; exact hs) (by rw [o.K]; exact hf)
    (wpAny_mono (run_in (E := E0) F' hr I.env0 (by rw [o.K]; exact hB) noPassE I (vs := [V.ref a, V.ref b]) (.cons rfl (.cons rfl .nil)) (Q := Q) ⟨H, M, [.scr st, .scr st'], P, NoR, tr.ok, ⟨iv, iu, trivial⟩, h, fun d M' v H3 H4 p3 t3 i3 => ?_, fun _ _ _ _ _ _ _ z => z.elim⟩) (fun w s' z => ?_) fun _ _ x => x)
  · exact q _ M' _ H3 H4 p3 (tr.trans t3) t3.ex i3
  · obtain ⟨z', H', I', rz, qz⟩ := z
    exact SlX.cmpback rz ⟨z', H', I', rz, qz⟩
theorem c_isiScr (S : ClsS c.m) (hk : PySem.W.kitOne c.m.K (.ref c.m.C) (.ref c.m.C) = some true) (p : P (dB true) M) : OL c (rIsi c.m.K) [.scr st, .own c.m.C] M P := ol_of p fun H H1 vs Q tr h q => by
  obtain ⟨v, w, rfl, iv, iw⟩ := is2 h
  obtain ⟨a, dx, r, rfl, h1, h2⟩ := iv
  exact ⟨_, w, _, .ref c.m.C, true, rfl, by rw [show w = .ref c.m.C from iw]; exact .own _, .base (.ins (tr.ok.ex _ _ h1) S.cls S.ca S.cn S.ct S.cm), hk, q _ (Dq.bl _)⟩
theorem c_isiNot {d : PyData} (S : ClsS c.m) (hk : PySem.W.kitOne c.m.K (.type (tyN d)) (.ref c.m.C) = some false) (hx : Rdd M x d) (p : P (dB false) M) : OL c (rIsi c.m.K) [x, .own c.m.C] M P := ol_of p fun H H1 vs Q tr h q => by
  obtain ⟨v, w, rfl, iv, iw⟩ := is2 h
  exact ⟨v, w, _, .ref c.m.C, false, rfl, by rw [show w = .ref c.m.C from iw]; exact .own _, ty_of (rd_dp tr iv hx), hk, q _ (Dq.bl _)⟩
end
end CR

namespace CR
open PySem PySem.Spec PyProof.Rows L2
open Evl (Ex)
section
variable {c : Cd} {N : List Str} {sc : Scope} {k : Nat} {Γ : Gx} {M : Mem} {P : D → Mem → Prop} {nx_ : Gx → Mem → Prop} {rt_ : D → Mem → Prop} {bk_ ct_ : Gx → Mem → Prop} {e a b : Expr} {es : List Expr} {pos p : Pos}
abbrev LcF (c : Cd) (N : List Str) (sc scope : Scope) (k : Nat) (Γ : Gx) (vs : List Nat) (tg : Expr) (ifs : List Expr) (elt : Expr) (P : D → Mem → Prop) : Nat → (Nat → D) → (Mem → Prop) → Mem → Prop := fun n f Kp M1 =>
  ∃ (t : Nat → Bool) (g : Nat → PyData), n ≤ 99999 ∧ (∀ acc a, Kp ((a, .lst acc) :: M1)) ∧
    (∀ i acc a, i < n → ∀ X1, (c.blk X1).Ok N (relS scope sc) k → Egv (c.blk X1) (wipeE Γ vs) ((a, .lst acc) :: M1) tg (f i) vs fun Γ2 M2 => ∀ X2, (c.blk X2).Ok N (relS scope sc) k → Ets (c.blk X2) Γ2 M2 ifs fun b M3 =>
      b = t i ∧ M3 = (a, .lst acc) :: M1 ∧ (b = true → ∀ X3, (c.blk X3).Ok N (relS scope sc) k → Ee (c.blk X3) Γ2 M3 elt fun y M4 => y = .p (g i) ∧ M4 = (a, .lst acc) :: M1)) ∧
    ∀ a, P (.own a) ((a, .lst (((List.range n).filter t).map g)) :: M1)
theorem lc_f {n : Nat} {f : Nat → D} {Kp : Mem → Prop} {scope : Scope} {vs : List Nat} {tg : Expr} {ifs : List Expr} {elt : Expr} (h : LcF c N sc scope k Γ vs tg ifs elt P n f Kp M) : LcW c N sc scope k Γ vs tg ifs elt P n f Kp M := by
  obtain ⟨t, g, hn, hk, hs, hd⟩ := h
  have hl : ∀ i, i ≤ n → (((List.range i).filter t).map g).length ≤ i := fun i _ => by
    rw [List.length_map]
    exact Nat.le_trans (List.length_filter_le _ _) (by rw [List.length_range]; exact Nat.le_refl _)
  refine ⟨fun i acc M' => acc = ((List.range i).filter t).map g ∧ M' = M, ⟨rfl, rfl⟩, fun i acc M' a hi h => ?_, fun i acc M' a hi h X1 o1 => ?_, fun acc M' a h => ?_⟩
  · obtain ⟨_, rfl⟩ := h; exact hk _ _
  · obtain ⟨rfl, rfl⟩ := h
    refine fun σ H H1 v Q tr sl iv q => hs i _ a hi X1 o1 σ H H1 v Q tr sl iv fun Γ2 M2 σ' H' H2 p2 => q Γ2 M2 σ' H' H2 fun X2 o2 => ?_
    refine (p2 X2 o2).imp fun b M3 p3 => ?_
    obtain ⟨rfl, rfl, p3⟩ := p3
    refine ⟨fun hb X3 o3 => (p3 hb X3 o3).imp fun y M4 p4 => ?_, fun hb => ?_⟩
    · obtain ⟨rfl, rfl⟩ := p4
      refine ⟨g i, M', rfl, rfl, Nat.lt_of_le_of_lt (hl i (by omega)) (by omega), ?_, rfl⟩
      rw [List.range_succ, List.filter_append, List.filter_cons_of_pos (by simpa using hb), List.filter_nil, List.map_append]; rfl
    · refine ⟨M', rfl, ?_, rfl⟩
      rw [List.range_succ, List.filter_append, List.filter_cons_of_neg (by simpa using hb), List.filter_nil, List.append_nil]
  · obtain ⟨rfl, rfl⟩ := h; exact hd a
theorem ei_imp {tg iter : Expr} {Pi Pj : Nat → (Nat → D) → (Mem → Prop) → Mem → Prop} (h : Ei c Γ M tg iter Pi) (i : ∀ n f Kp M', Pi n f Kp M' → Pj n f Kp M') : Ei c Γ M tg iter Pj := fun σ H H1 R tr sl q => h σ H H1 R tr sl fun n f Kp M' J H' H2 p => q n f Kp M' J H' H2 (i n f Kp M' p)
theorem e_lcF {elt tg iter : Expr} {ifs : List Expr} {scope : Scope} (own : List (Str × Nat)) (o : c.Ok N sc k) (ok : blkC N sc scope own = true) (hs : ∀ x, foldedSetIterable iter c.X.env x = pure x)
    (h : Ei c Γ M tg iter (LcF c N sc scope k Γ (own.map (·.2)) tg ifs elt P)) : Ee c Γ M (.ListComp elt [⟨tg, iter, ifs, 0⟩] scope pos) P := e_lc own o ok hs (ei_imp h fun _ _ _ _ => lc_f)
theorem s_setLcF {elt tg iter : Expr} {ifs : List Expr} {scope : Scope} {y : Str} {i : Nat} {py spos : Pos} [hi : At N y i] (own : List (Str × Nat)) (o : c.Ok N sc k) (hl : sc.names.lookup y = some .local) (ok : blkC N sc scope own = true) (hs : ∀ x, foldedSetIterable iter c.X.env x = pure x)
    (hk : sc.kind = .function) (hp : (py.line == pos.line) = true) (hy : (scope.names.any fun (n, k) => n == y && (k == .local || k == .cell)) = false)
    (h : Ei c Γ M tg iter (LcF c N sc scope k Γ (own.map (·.2)) tg ifs elt fun d M1 => nx_ (Γ.set i (some d)) M1)) : Es c Γ M (.Assign [.Name y py] (.ListComp elt [⟨tg, iter, ifs, 0⟩] scope pos) spos) ⟨nx_, rt_, bk_, ct_⟩ := s_setLc own o hl ok hs hk hp hy (ei_imp h fun _ _ _ _ => lc_f)
abbrev LcM (c : Cd) (N : List Str) (sc scope : Scope) (k : Nat) (Γ : Gx) (vs : List Nat) (tg : Expr) (elt : Expr) (P : D → Mem → Prop) : Nat → (Nat → D) → (Mem → Prop) → Mem → Prop := fun n f Kp M1 =>
  ∃ (g : Nat → PyData), n ≤ 99999 ∧ (∀ acc a, Kp ((a, .lst acc) :: M1)) ∧
    (∀ i acc a, i < n → ∀ X1, (c.blk X1).Ok N (relS scope sc) k → Egv (c.blk X1) (wipeE Γ vs) ((a, .lst acc) :: M1) tg (f i) vs fun Γ2 M2 => ∀ X2, (c.blk X2).Ok N (relS scope sc) k → Ee (c.blk X2) Γ2 M2 elt fun y M4 => y = .p (g i) ∧ M4 = (a, .lst acc) :: M1) ∧
    ∀ a, P (.own a) ((a, .lst ((List.range n).map g)) :: M1)
theorem lc_m {n : Nat} {f : Nat → D} {Kp : Mem → Prop} {scope : Scope} {vs : List Nat} {tg : Expr} {elt : Expr} (h : LcM c N sc scope k Γ vs tg elt P n f Kp M) : LcW c N sc scope k Γ vs tg [] elt P n f Kp M := by
  obtain ⟨g, hn, hk, hs, hd⟩ := h
  refine ⟨fun i acc M' => acc = (List.range i).map g ∧ M' = M, ⟨rfl, rfl⟩, fun i acc M' a hi h => ?_, fun i acc M' a hi h X1 o1 => ?_, fun acc M' a h => ?_⟩
  · obtain ⟨_, rfl⟩ := h; exact hk _ _
  · obtain ⟨rfl, rfl⟩ := h
    refine fun σ H H1 v Q tr sl iv q => hs i _ a hi X1 o1 σ H H1 v Q tr sl iv fun Γ2 M2 σ' H' H2 p2 => q Γ2 M2 σ' H' H2 fun X2 o2 => ts_nil ⟨fun _ X3 o3 => ?_, fun hb => nomatch hb⟩
    refine (p2 X3 o3).imp fun y M4 p4 => ?_
    obtain ⟨rfl, rfl⟩ := p4
    refine ⟨g i, M', rfl, rfl, by rw [List.length_map, List.length_range]; omega, ?_, rfl⟩
    rw [List.range_succ, List.map_append]; rfl
  · obtain ⟨rfl, rfl⟩ := h; exact hd a
theorem e_lcM {elt tg iter : Expr} {scope : Scope} (own : List (Str × Nat)) (o : c.Ok N sc k) (ok : blkC N sc scope own = true) (hs : ∀ x, foldedSetIterable iter c.X.env x = pure x)
    (h : Ei c Γ M tg iter (LcM c N sc scope k Γ (own.map (·.2)) tg elt P)) : Ee c Γ M (.ListComp elt [⟨tg, iter, [], 0⟩] scope pos) P := e_lc own o ok hs (ei_imp h fun _ _ _ _ => lc_m)
theorem s_setLcM {elt tg iter : Expr} {scope : Scope} {y : Str} {i : Nat} {py spos : Pos} [hi : At N y i] (own : List (Str × Nat)) (o : c.Ok N sc k) (hl : sc.names.lookup y = some .local) (ok : blkC N sc scope own = true) (hs : ∀ x, foldedSetIterable iter c.X.env x = pure x)
    (hk : sc.kind = .function) (hp : (py.line == pos.line) = true) (hy : (scope.names.any fun (n, k) => n == y && (k == .local || k == .cell)) = false)
    (h : Ei c Γ M tg iter (LcM c N sc scope k Γ (own.map (·.2)) tg elt fun d M1 => nx_ (Γ.set i (some d)) M1)) : Es c Γ M (.Assign [.Name y py] (.ListComp elt [⟨tg, iter, [], 0⟩] scope pos) spos) ⟨nx_, rt_, bk_, ct_⟩ := s_setLc own o hl ok hs hk hp hy (ei_imp h fun _ _ _ _ => lc_m)
theorem getD_map {α : Type} {f : α → PyData} {xs : List α} {i : Nat} {d : PyData} (h : i < xs.length) : (xs.map f).getD i d = f xs[i] := by
  rw [List.getD_eq_getElem?_getD, List.getElem?_map, List.getElem?_eq_getElem h]; rfl
theorem range_map_get {α β : Type} {xs : List α} {f : α → β} {g : Nat → β} (h : ∀ i (hi : i < xs.length), g i = f xs[i]) : (List.range xs.length).map g = xs.map f := by
  apply List.ext_getElem
  · simp
  · intro i h1 h2
    simp only [List.getElem_map, List.getElem_range]
    exact h i (by simpa using h2)
theorem filter_true {α : Type} (xs : List α) : xs.filter (fun _ => true) = xs := List.filter_eq_self.mpr fun _ _ => rfl
end
end CR

namespace CR
open PySem PySem.Spec PyProof.Rows L2
open Evl (Ex)
set_option maxHeartbeats 1000000 in
theorem meets_enum1 {v : Value} {o : Obj} {H : Heap → Prop} (B : Begins v o H) :
    Meets (Builtin.«enumerate.__new__» ⟨[.type "enumerate", v], []⟩) (fun _ R s => H s.heap ∧
      R (.ok (.ret (.ref (s.heap.push o).objs.size))) { s with heap := (s.heap.push o).push { cls := .type "enumerate", data := .fields #[.none, .bool false, .ref s.heap.objs.size, rawInt 0, .none, .none] } }) :=
  .of_wp fun prog w A R s h => by
    obtain ⟨hp, g, d, tk, os⟩ := s; obtain ⟨h1, h⟩ := h
    have hsub := sub_enumerate
    have q1 : ∀ {A' : Around} {E : Value → Shared → Prop} {Q : Value → Shared → Prop}, Q (.ref hp.objs.size) ⟨hp.push o, g, d, tk, os⟩ → wpAny (model prog w) A' (pyIter v) Q E ⟨hp, g, d, tk, os⟩ :=
      fun q => B.iter prog w _ _ ⟨hp, g, d, tk, os⟩ _ h1 q
    wp_walk using q1
    refine wpAny_stack_any fun st => wpAny_pure ?_
    split
    · rename_i c _ _ _ _ _
      cases (c == Value.type "enumerate")
      · wp_walk using q1
        exact ⟨_, rfl, h⟩
      · wp_walk using q1
        exact ⟨_, rfl, h⟩
    · wp_walk using q1
      exact ⟨_, rfl, h⟩
theorem enum1 {prog : Program} {w : World} {A : Around} {E : Value → Shared → Prop} {s : Shared} {v : Value} {o : Obj} {H : Heap → Prop} {Q : Value → Shared → Prop} (B : Begins v o H) (h1 : H s.heap)
    (h : ∀ h', IsEnum h' (s.heap.objs.size + 1) s.heap.objs.size 0 .none → h'.get? s.heap.objs.size = some o → h'.objs.size = s.heap.objs.size + 2 →
      (∀ b o, s.heap.get? b = some o → h'.get? b = some o) → Q (.ref (s.heap.objs.size + 1)) { s with heap := h' }) : wpAny (model prog w) A (call (.type "enumerate") [v]) Q E s := by
  refine callType_new F.called_enumerate (by decide) (F.typeCall_enumerate_1 _) (F.newCall_enumerate_1 _) (fun obj => F.args_object_init_2 obj _) F.entry_enumerate_new (meets_enum1 B) ⟨h1, ?_⟩
  have hz : (s.heap.push o).objs.size = s.heap.objs.size + 1 := Heap.size_push ..
  show _ ∧ _
  rw [hz]
  have he : IsEnum ((s.heap.push o).push { cls := .type "enumerate", data := .fields #[.none, .bool false, .ref s.heap.objs.size, rawInt 0, .none, .none] }) (s.heap.objs.size + 1) s.heap.objs.size 0 .none := by
    have := Heap.get?_push_size (s.heap.push o) (o := { cls := .type "enumerate", data := .fields #[.none, .bool false, .ref s.heap.objs.size, rawInt 0, .none, .none] }) rfl
    rw [hz] at this; exact this
  exact ⟨⟨_, he, rfl⟩, h _ he (Heap.get?_push_of_some _ (Heap.get?_push_size _ B.free)) (by rw [Heap.size_push, hz]) fun b o x => Heap.get?_push_of_some _ (Heap.get?_push_of_some _ x)⟩
def Itet (K : PySem.W.Frag) (a : Addr) : It :=
  ⟨fun i H => ∃ (xs : List V) (x : V), SqT K H a xs ∧ xs[i]? = some x, fun i H v H' => ∃ T x, v = .ref T ∧ H T = none ∧ H' = upd H T (.tup [.int (i : Nat), x]) ∧ ∀ xs, SqT K H a xs → xs[i]? = some x, fun i H => ∃ xs : List V, SqT K H a xs ∧ xs.length ≤ i⟩
theorem turn_enumT {P : Program} {w : World} {K : PySem.W.Frag} {elts : List Expr} {kk : Nat} {tpos : Pos} (a e it : Addr) (items : Array Value) (hta : a ≠ it) :
    Turn P w K (.Tuple elts kk tpos) (Itet K a) [e, it] e (fun i h => (∃ old, IsEnum h e it ((i : Nat) : Int) old) ∧ h.IsTupleIter it a i ∧ e ≠ it ∧ e ≠ a) where
  mem := by simp
  obj := fun i h st b hb => by
    obtain ⟨⟨old, he⟩, ⟨o, ho, hc, hd⟩, _⟩ := st
    have e' : b = e ∨ b = it := by simpa using hb
    rcases e' with z | z
    · rw [z]; exact ⟨_, he, fun v q => nomatch q⟩
    · rw [z]; exact ⟨o, ho, fun v q => by rw [hd] at q; cases q⟩
  keep := fun i h h' st k => let ⟨⟨old, he⟩, hi, hne⟩ := st; ⟨⟨old, k e (by simp) _ he⟩, hi.at fun o q => k it (by simp) o q, hne⟩
  item := by
    intro X hP hw hK hc i pins s σ H E I hf st hg
    subst hP hw hK
    obtain ⟨⟨old, he⟩, hit, hne, hna⟩ := st
    obtain ⟨xs, x, hq, hx⟩ := hg
    obtain ⟨its, rv, p, hz⟩ := I.tuple hq
    obtain ⟨u, hu, ru⟩ := rv.get hx
    have hel : e < s.heap.objs.size := Heap.lt_size he
    have hil : it < s.heap.objs.size := by obtain ⟨_, q, _⟩ := hit; exact Heap.lt_size q
    have hlt : i < its.toArray.size := by
      have := (List.getElem?_eq_some_iff.mp hu).1
      simpa using this
    refine wpAny_pyNext_enum_itemD (Draws.tuple (prog := X.prog) (w := X.w) (A := X.A.in1) (I.ok.hd hc) it a hta its.toArray) he ⟨hit, p⟩ hlt hne (by simp [hne, hna]) fun u' h' tk hu' ho st' hT hsz hk => ?_
    have eu : u' = u := by
      have : its[i]? = some u' := by simpa using hu'
      rw [hu] at this; exact (Option.some.inj this).symm
    subst eu
    refine ⟨_, rfl, wpAny_letOwnedTupleGo_enum (s := { s with heap := h', toks := tk + 1 }) ho fun h'' he' sb => ?_⟩
    have hT2 : h''.get? s.heap.objs.size = some { cls := .type "tuple", data := .seq #[.int i tk, u'] } := (sb.2 _ (Nat.ne_of_gt hel)).trans hT
    have new : ObjOk X.prog X.w (upd H s.heap.objs.size (.tup [.int (i : Nat), x])) h'' s.heap.objs.size (.tup [.int (i : Nat), x]) :=
      ⟨by show 2 ≤ sizeLine; decide, [.int i tk, u'], .cons ⟨_, rfl⟩ (.cons ru .nil), ⟨_, hT2, rfl, _, rfl⟩⟩
    have I1 : Inv X pins σ (upd H s.heap.objs.size (.tup [.int (i : Nat), x])) { s with heap := h'', toks := tk + 1 } :=
      I.turnedNew (ch := [e, it]) (fun b ob hb q => (sb.2 b (fun z => hb (by simp [z]))).trans (hk b ob (fun z => hb (by simp [z])) (fun z => hb (by simp [z])) q)) hf (Nat.le_refl _) new
    refine ⟨.ref s.heap.objs.size, _, I1, rfl, ⟨_, x, rfl, I.hok.fresh (Nat.le_refl _), rfl, fun ys hy => by rw [I.tuple_inj hy hq]; exact hx⟩, ⟨⟨u', ?_⟩, st'.1.at fun o q => (sb.2 it (Ne.symm hne)).trans q, hne, hna⟩, fun b hb => ?_⟩
    · have e1 : ((i + 1 : Nat) : Int) = (i : Int) + 1 := by omega
      rw [e1]; exact he'
    · have hb' : b < s.heap.objs.size := by
        have e' : b = e ∨ b = it := by simpa using hb
        rcases e' with z | z
        · rw [z]; exact hel
        · rw [z]; exact hil
      rw [upd_ne (Nat.ne_of_lt hb')]
      exact (hf b hb).1
  done := by
    intro X hP hw hK hc i pins s σ H E I hf st hg
    subst hP hw hK
    obtain ⟨⟨old, he⟩, hit, hne, hna⟩ := st
    obtain ⟨xs, hq, hx⟩ := hg
    obtain ⟨its, rv, p, hz⟩ := I.tuple hq
    obtain ⟨f0, f1, f2, f3, f4, f5⟩ := hf it (by simp)
    have hl := rv.length
    have hT : s.TypeIs (.ref e) "enumerate" := ⟨_, he, rfl⟩
    unfold pyNext
    refine wpAny_bind (wpAny_attempt (wpAny_callSpecial?_slot (name := Str.ofString "__next__") hT F.slot_enumerate_next
      (wpAny_call_entry F.slot_enumerate_next hT F.entry_enumerate_next ?_ (F.args_enumerate_next_1 _))))
    show wpAny _ _ (field (.ref e) 2 >>= _) _ _ _
    refine wpAny_bind (wpAny_field he rfl (x := .ref it) rfl ?_)
    refine wpAny_bind (wpAny_nextOf_tuple_end (I.ok.hd hc) hit p (by simp; omega) fun h' x eb hx' => ?_)
    obtain ⟨o, ho, hc'⟩ := hx'
    refine wpAny_bind (wpAny_isInstance (T := "StopIteration") (b := true) ⟨o, ho, hc'⟩ isSubtype_stop ?_)
    exact wpAny_pure ⟨rfl, I.turned (t' := s.toks) (fun b o hb q => eb b o hb q) f0 f1 f3 f4 f5⟩
  self := fun A i s Q E st h => let ⟨⟨_, he⟩, _⟩ := st; wpAny_pyIter_enum he h
def iEnumT (K : PySem.W.Frag) (ta : TA) : TI := fun σ H R => ta σ H fun vs H1 => ∃ a xs, vs = [.ref a] ∧ SqT K H1 a xs ∧ R (Itet K a) H1
theorem pi_enumT {X : Cx} {e : Expr} {ta : TA} {p pos tpos : Pos} {elts : List Expr} {kk : Nat} (hg : Gl X "enumerate") (hm : X.mg "enumerate" = none) (ha : PA X [e] ta) (hs : starEach [e] X.env = [(false, eval e X.env)]) :
    PI X (.Tuple elts kk tpos) (.Call (.Name "enumerate" p) [e] [] pos) (iEnumT X.K ta) := by
  refine ⟨fun pins s σ H R I h => ?_⟩
  refine Call_ (ld_blt I hg hm boot_enumerate (PyProof.Rows.callWith_type1 (thn (ha.run pos pins s σ H _ I h) fun us s1 ⟨vs, H1, I1, r1, q1⟩ => ?_) hs rfl))
  obtain ⟨a, xs, ex, hq, q⟩ := q1
  subst ex
  cases r1 with
  | cons r rr =>
    cases rr
    cases r
    obtain ⟨its, rv, p', hz⟩ := I1.tuple hq
    refine enum1 (begins_tuple a its.toArray) p' fun h' he hit hsz hk => wpAny_pyIter_enum he ?_
    have I2 : Inv X pins σ H1 { s1 with heap := h' } := I1.kept (t' := s1.toks) hk
    have hal : a < s1.heap.objs.size := by obtain ⟨_, q, _⟩ := p'; exact Heap.lt_size q
    refine ⟨s1.heap.objs.size + 1, [s1.heap.objs.size + 1, s1.heap.objs.size], _, _, H1, rfl, I2, turn_enumT a (s1.heap.objs.size + 1) s1.heap.objs.size its.toArray (Nat.ne_of_lt hal), ⟨⟨.none, he⟩, ⟨_, hit, rfl, rfl⟩, Nat.succ_ne_self _, Nat.ne_of_gt (Nat.lt_succ_of_lt hal)⟩, fun b hb => ?_, q⟩
    have e' : b = s1.heap.objs.size + 1 ∨ b = s1.heap.objs.size := by simpa using hb
    have hle : s1.heap.objs.size ≤ b := by
      rcases e' with z | z
      · rw [z]; exact Nat.le_add_right _ _
      · rw [z]; exact Nat.le_refl _
    exact I1.fpOk hle (I1.hok.fresh hle)
section
variable {c : Cd} {N : List Str} {sc : Scope} {k : Nat} {Γ : Gx} {M : Mem} {e a b : Expr} {es : List Expr} {pos p : Pos}
theorem i_enumT {elts : List Expr} {kk : Nat} {tpos pr pc : Pos} {Pi : Nat → (Nat → D) → (Mem → Prop) → Mem → Prop} (o : c.Ok N sc k) (hm : c.m.mg "enumerate" = none) (hg : sc.names.lookup ("enumerate" : Str) = some .globalImplicit) (hs1 : starEach [e] c.X.env = [(false, eval e c.X.env)])
    (h : Ea c Γ M [e] fun xs M1 => ∃ ds, xs = [dT ds] ∧ Pi ds.length (fun i => dT [.int (i : Nat), ds.getD i .none]) (fun _ => True) M1) : Ei c Γ M (.Tuple elts kk tpos) (.Call (.Name "enumerate" pr) [e] [] pc) Pi :=
  fun σ H H1 R tr sl q => pi_to (pi_enumT (gl_of o hg) (by rw [o.mg]; exact hm) pa_sem hs1) (h σ H H1 _ tr sl fun xs M1 vs H' H2 p1 tr1 e1 i1 => by
    obtain ⟨ds, rfl, p⟩ := p1
    obtain ⟨v, rfl, iv⟩ := is1 i1
    obtain ⟨a, vs, rfl, hq, hd⟩ := rd_t tr1 iv (.p _)
    rw [show c.X.K = c.G.K from o.K]
    refine ⟨a, vs, rfl, hq, q _ _ _ M1 _ H' H2 p tr1 e1 fun i H'' Hq M' t ex kp => ?_⟩
    obtain ⟨a', ws, ea, hq', hd'⟩ := rd_t t (iv.mono ex) (.p _)
    cases ea
    have hl := dpa_len hd'
    refine ⟨fun hi => ⟨ws, hq', by omega⟩, fun hi => ?_⟩
    obtain ⟨x, hx, ix⟩ := dpa_get hd' (getD_of hi)
    refine ⟨⟨ws, x, hq', hx⟩, fun y Hp' hy => ?_⟩
    obtain ⟨T, x', rfl, hT, rfl, hy⟩ := hy
    have := hy ws hq'
    rw [hx] at this
    cases this
    have t2 := t.ok.new (o := .tup [.int (i : Nat), x]) hT
    exact ⟨_, t.trans t2, t2.ex, Dq.tup (SqT.of upd_same) (.cons (.int _) (.cons (dp_mono t2.ex _ _ ix) .nil))⟩)
theorem i_enumL {elts : List Expr} {kk : Nat} {tpos pr pc : Pos} {Pi : Nat → (Nat → D) → (Mem → Prop) → Mem → Prop} (o : c.Ok N sc k) (hm : c.m.mg "enumerate" = none) (hg : sc.names.lookup ("enumerate" : Str) = some .globalImplicit) (hs1 : starEach [e] c.X.env = [(false, eval e c.X.env)])
    (h : Ea c Γ M [e] fun xs M1 => ∃ d ds, xs = [d] ∧ Rdd M1 d (.list ds) ∧ Pi ds.length (fun i => dT [.int (i : Nat), ds.getD i .none]) (fun M' => Rdd M' d (.list ds)) M1) : Ei c Γ M (.Tuple elts kk tpos) (.Call (.Name "enumerate" pr) [e] [] pc) Pi :=
  fun σ H H1 R tr sl q => pi_to (pi_enum (gl_of o hg) (by rw [o.mg]; exact hm) pa_sem hs1) (h σ H H1 _ tr sl fun xs M1 vs H' H2 p1 tr1 e1 i1 => by
    obtain ⟨d, ds, rfl, rd, p⟩ := p1
    obtain ⟨v, rfl, iv⟩ := is1 i1
    obtain ⟨a, vs, rfl, hq, hd⟩ := rd_l tr1 iv rd
    rw [show c.X.K = c.G.K from o.K]
    refine ⟨a, vs, rfl, hq, q _ _ _ M1 _ H' H2 p tr1 e1 fun i H'' Hq M' t ex kp => ?_⟩
    obtain ⟨a', ws, ea, hq', hd'⟩ := rd_l t (iv.mono ex) kp
    cases ea
    have hl := dpa_len hd'
    refine ⟨fun hi => ⟨ws, hq', by omega⟩, fun hi => ?_⟩
    obtain ⟨x, hx, ix⟩ := dpa_get hd' (getD_of hi)
    refine ⟨⟨ws, x, hq', hx⟩, fun y Hp' hy => ?_⟩
    obtain ⟨T, x', rfl, hT, rfl, hy⟩ := hy
    have := hy ws hq'
    rw [hx] at this
    cases this
    have t2 := t.ok.new (o := .tup [.int (i : Nat), x]) hT
    exact ⟨_, t.trans t2, t2.ex, Dq.tup (SqT.of upd_same) (.cons (.int _) (.cons (dp_mono t2.ex _ _ ix) .nil))⟩)
end
end CR

namespace CR
open PySem PySem.Spec PyProof.Rows L2
open Evl (Ex)
theorem fp_sub {M M' : Mem} (h : M'.Sublist M) : (fp M').Sublist (fp M) := by
  induction h with
  | slnil => exact .refl _
  | cons a _ ih => exact ih.trans (List.sublist_append_right _ _)
  | cons_cons a _ ih => exact List.Sublist.append_left ih _
theorem Conv.sub {G : Gm} {M M' : Mem} (h : M'.Sublist M) : Conv G M M' := fun H H1 k =>
  ⟨⟨k.ex, fun a c hc => k.cells a c (h.subset hc), (fp_sub h).nodup k.nd, fun b hb => k.out b ((fp_sub h).subset hb)⟩, fun b hb => (fp_sub h).subset hb⟩
section
variable {c : Cd} {N : List Str} {sc : Scope} {k : Nat} {Γ : Gx} {M : Mem} {P : D → Mem → Prop} {A : List D → Mem → Prop} {nx_ : Gx → Mem → Prop} {rt_ : D → Mem → Prop} {bk_ ct_ : Gx → Mem → Prop} {o e a b : Expr} {es : List Expr} {pos apos cpos p : Pos} {x y : D} {i : Int} {s : Str}
def numW (i : Int) : Str := Str.ofString (toString i)
theorem c_strI (hi : i.natAbs.log2 < 1920) (p : P (dS (numW i)) M) : OL c (fun xs H Q => ∃ i, xs = [.int i] ∧ i.natAbs.log2 < 1920 ∧ Q (.str (toString i)) H) [dI i] M P := ol_of p fun H H1 vs Q tr h q => by
  obtain ⟨v, rfl, iv⟩ := is1 h
  exact ⟨i, by rw [iv.int], hi, q _ (Dq.str _)⟩
def rInt : List V → Hp → VK → Prop := fun xs H Q => ((∃ i, xs = [.int i] ∧ Q (.int i) H) ∨ ∃ k, xs = [.bl k] ∧ Q (.int (if k then 1 else 0)) H) ∨ ∃ a n, xs = [.str a] ∧ PySem.intText? a = some n ∧ a.length ≤ 640 ∧ Q (.int n) H
theorem call_intA {X : Cx} : CallR X (.type "int") rInt := fun pins s σ H xs us Q I r h => by
  rcases h with h | h
  · exact call_int1 pins s σ H xs us Q I r h
  · exact call_int_str pins s σ H xs us Q I r h
theorem c_intI' (p : P (dI i) M) : OL c rInt [dI i] M P := fun H H1 vs Q tr iv q => .inl (c_intI p H H1 vs Q tr iv q)
theorem c_intB' {b : Bool} (p : P (dI (if b then 1 else 0)) M) : OL c rInt [dB b] M P := fun H H1 vs Q tr iv q => .inl (c_intB p H H1 vs Q tr iv q)
theorem c_intS (hs : PySem.intText? s = some i) (hl : s.length ≤ 640) (p : P (dI i) M) : OL c rInt [dS s] M P := ol_of p fun H H1 vs Q tr h q => by
  obtain ⟨v, rfl, iv⟩ := is1 h
  exact .inr ⟨s, i, by rw [iv.str], hs, hl, q _ (Dq.int _)⟩
theorem e_join (ok : c.Ok N sc k) (hs : starEach [e] c.X.env = [(false, eval e c.X.env)]) (hbase : attributeBase o "join" c.X.env (eval o c.X.env) = eval o c.X.env) (hline : (apos.endLine == cpos.line) = true)
    (h : Ee c Γ M o fun d M1 => ∃ s, d = dS s ∧ Ee c Γ M1 e fun y M2 => ∃ ys : List Str, (Rdd M2 y (.list (ys.map .str)) ∨ y = dT (ys.map .str)) ∧ (ys.map (·.length)).sum + ys.length * s.length ≤ 16777216 ∧ P (dS (Str.join s ys)) M2) :
    Ee c Γ M (.Call (.Attribute o "join" apos) [e] [] cpos) P :=
  e_of (pe_join pe_sem pe_sem hs hbase hline) fun σ H H1 Q tr sl q => h σ H H1 _ tr sl fun d M1 v H' H2 p1 tr1 e1 i1 => by
    obtain ⟨s, rfl, p1⟩ := p1
    refine ⟨⟨s, i1.str⟩, p1 σ H' H2 _ tr1 (sl.mono e1) fun y M2 w H3 H4 p3 t3 e3 i3 => ?_⟩
    obtain ⟨ys, hy, hl, pp⟩ := p3
    rw [show c.X.K = c.G.K from ok.K]
    obtain ⟨b, ws, rfl, hw, hd⟩ : ∃ b ws, w = .ref b ∧ (SqL c.G.K H4 b ws ∨ SqT c.G.K H4 b ws) ∧ DqAll c.G.K H3 ws (ys.map .str) := by
      rcases hy with hy | hy
      · obtain ⟨b, ws, h1, h2, h3⟩ := rd_l t3 i3 hy; exact ⟨b, ws, h1, .inl h2, h3⟩
      · subst hy; obtain ⟨b, ws, h1, h2, h3⟩ := rd_t t3 i3 (.p _); exact ⟨b, ws, h1, .inr h2, h3⟩
    rw [dpa_strs_inv hd] at hw
    exact ⟨s, b, ys, i1.str, rfl, hw, hl, by rw [show Txt.join s ys = Str.join s ys from StrLaws.glued_eq_join s ys]; exact q _ M2 _ H3 H4 pp t3 (e1.trans e3) (Dq.str _)⟩
theorem e_split (ok : c.Ok N sc k) (hs : starEach [e] c.X.env = [(false, eval e c.X.env)]) (hbase : attributeBase o "split" c.X.env (eval o c.X.env) = eval o c.X.env) (hline : (apos.endLine == cpos.line) = true)
    (h : Ee c Γ M o fun d M1 => ∃ s, d = dS s ∧ Ee c Γ M1 e fun y M2 => ∃ t, y = dS t ∧ (t.length == 0) = false ∧ s.length ≤ 100000 ∧ P (dL ((Txt.split s t).map .str)) M2) :
    Ee c Γ M (.Call (.Attribute o "split" apos) [e] [] cpos) P :=
  e_of (pe_split pe_sem pe_sem hs hbase hline) fun σ H H1 Q tr sl q => h σ H H1 _ tr sl fun d M1 v H' H2 p1 tr1 e1 i1 => by
    obtain ⟨s, rfl, p1⟩ := p1
    refine ⟨⟨s, i1.str⟩, p1 σ H' H2 _ tr1 (sl.mono e1) fun y M2 w H3 H4 p3 t3 e3 i3 => ?_⟩
    obtain ⟨t, rfl, ht, hl, pp⟩ := p3
    refine ⟨s, t, i1.str, by rw [i3.str], ht, Nat.le_trans (Nat.add_le_add_right hl 2) (by decide), fun a ha => ?_⟩
    have t4 := t3.ok.new (o := .lst ((Txt.split s t).map V.str)) ha
    exact q _ _ _ _ _ pp (t3.trans t4) ((e1.trans e3).trans t4.ex) (Dq.lst upd_same dpa_strs)
theorem is_p {G : Gm} {H : Hp} {vs : List V} {ds : List PyData} (h : DqAll G.K H vs ds) : IsAll G H vs (ds.map D.p) := IsAll.of_dp h
theorem a_star (ok : c.Ok N sc k) (hs : starEach (.Starred e p :: es) c.X.env = (true, eval e c.X.env) :: starEach es c.X.env) (h : Ee c Γ M e fun d M1 => ∃ ds, (Rdd M1 d (.list ds) ∨ d = dT ds) ∧ Ea c Γ M1 es fun xs M2 => A (ds.map D.p ++ xs) M2) : Ea c Γ M (.Starred e p :: es) A :=
  a_of (StX.pa_star pe_sem pa_sem hs) fun σ H H1 Q tr sl q => h σ H H1 _ tr sl fun d M1 v H' H2 p1 tr1 e1 i1 => by
    obtain ⟨ds, hd, p1⟩ := p1
    obtain ⟨b, ws, rfl, hw, hq⟩ : ∃ b ws, v = .ref b ∧ (SqL c.G.K H2 b ws ∨ SqT c.G.K H2 b ws) ∧ DqAll c.G.K H' ws ds := by
      rcases hd with hy | hy
      · obtain ⟨b, ws, h1, h2, h3⟩ := rd_l tr1 i1 hy; exact ⟨b, ws, h1, .inl h2, h3⟩
      · subst hy; obtain ⟨b, ws, h1, h2, h3⟩ := rd_t tr1 i1 (.p _); exact ⟨b, ws, h1, .inr h2, h3⟩
    refine ⟨b, ws, rfl, by rw [show c.X.K = c.G.K from ok.K]; exact hw.symm, p1 σ H' H2 _ tr1 (sl.mono e1) fun xs M2 us H3 H4 p3 t3 e3 i3 => ?_⟩
    exact q _ M2 _ H3 H4 p3 t3 (e1.trans e3) (IsAll.append (is_p (dpa_mono e3 _ _ hq)) i3)
end
end CR

namespace CR
open PySem PySem.Spec PyProof.Rows L2
open Evl (Ex)
def pickA {α : Type} (lo hi : Option Int) (st : Int) (xs : List α) : List α :=
  let b := Builtin.Slice.sliceAdjust lo hi st xs.length
  (List.range (Builtin.Slice.slicePlaces b.1 b.2 st)).filterMap fun (k : Nat) => xs[(b.1 + (k : Int) * st).toNat]?
def wholeC (lo hi : Option Int) (st : Int) (n : Nat) : Prop := (Builtin.Slice.sliceAdjust lo hi st n).1 = 0 ∧ st = 1 ∧ Builtin.Slice.slicePlaces (Builtin.Slice.sliceAdjust lo hi st n).1 (Builtin.Slice.sliceAdjust lo hi st n).2 st = n
def pickB {α : Type} (lo hi : Option Int) (st : Int) (xs : List α) : List α :=
  (sliceRange (sliceBounds lo hi (some st) xs.length).1 (sliceBounds lo hi (some st) xs.length).2.1 (sliceBounds lo hi (some st) xs.length).2.2).filterMap fun k => xs[k]?
theorem range_all {α : Type} (xs : List α) : ((List.range xs.length).filterMap fun k => xs[k]?) = xs := by
  apply List.ext_getElem?
  intro i
  have : ∀ (n m : Nat), m ≤ xs.length → n = m → (List.range n).filterMap (fun k => xs[k]?) = xs.take m := by
    intro n
    induction n with
    | zero => intro m _ e; subst e; simp
    | succ n ih =>
      intro m hm e
      subst e
      rw [List.range_succ, List.filterMap_append, ih n (by omega) rfl, List.take_succ_eq_append_getElem (by omega)]
      congr 1
      simp [List.getElem?_eq_getElem (show n < xs.length by omega)]
  rw [this _ _ (Nat.le_refl _) rfl, List.take_length]
theorem pick_whole {α : Type} {lo hi : Option Int} {st : Int} {xs : List α} (h : wholeC lo hi st xs.length) : pickA lo hi st xs = xs := by
  obtain ⟨h1, h2, h3⟩ := h
  show (List.range (Builtin.Slice.slicePlaces (Builtin.Slice.sliceAdjust lo hi st xs.length).1 (Builtin.Slice.sliceAdjust lo hi st xs.length).2 st)).filterMap (fun (k : Nat) => xs[((Builtin.Slice.sliceAdjust lo hi st xs.length).1 + (k : Int) * st).toNat]?) = _
  rw [h3, h1, h2, show (fun (k : Nat) => xs[((0 : Int) + (k : Int) * 1).toNat]?) = fun k => xs[k]? from funext fun k => by congr 1; omega]
  exact range_all xs
theorem get_arr (items : Array Value) (i : Nat) : items[i]? = items.toList[i]? := by simp
section
variable {prog : Program} {w : World} {A : Around} {E : Value → Shared → Prop} {s : Shared}
theorem applied3 {sl : Addr} {vl vu vs : Value} {lo hi : Option Int} {st : Int} {n : Nat} {Q : Int × Int × Nat → Shared → Prop} (hs : s.heap.IsSliceOf sl vl vu vs) (pl : IsPart vl lo) (pu : IsPart vu hi) (ps : IsPart vs (some st)) (h0 : st ≠ 0)
    (h : Q ((Builtin.Slice.sliceAdjust lo hi st n).1, st, Builtin.Slice.slicePlaces (Builtin.Slice.sliceAdjust lo hi st n).1 (Builtin.Slice.sliceAdjust lo hi st n).2 st) s) : wpAny (model prog w) A (Builtin.Slice.sliceApplied (.ref sl) (pure (n : Int))) Q E s := by
  obtain ⟨ob, hob, _, hfs⟩ := id hs
  unfold Builtin.Slice.sliceApplied Builtin.Slice.sliceFields
  refine wpAny_bind (wpAny_bind (wpAny_field hob hfs (x := vl) rfl (wpAny_bind (wpAny_field hob hfs (x := vu) rfl (wpAny_bind (wpAny_field hob hfs (x := vs) rfl (wpAny_pure ?_)))))))
  refine wpAny_bind (HT.slicePart_ ps ?_)
  show wpAny _ _ (if (st == 0) = true then _ else _) _ _ s
  rw [if_neg (fun z => h0 (eq_of_beq z))]
  refine wpAny_bind (HT.slicePart_ pl (wpAny_bind (HT.slicePart_ pu (wpAny_bind (wpAny_pure ?_)))))
  exact wpAny_pure h
theorem item3_tup {t sl : Addr} {items : Array Value} {vl vu vs : Value} {lo hi : Option Int} {st : Int} {Q : Value → Shared → Prop} (ht : IsTup s.heap t items) (hs : s.heap.IsSliceOf sl vl vu vs) (pl : IsPart vl lo) (pu : IsPart vu hi) (ps : IsPart vs (some st)) (h0 : st ≠ 0)
    (h1 : wholeC lo hi st items.toList.length → Q (.ref t) s) (h : Q (.ref s.heap.objs.size) { s with heap := s.heap.push { cls := .type "tuple", data := .seq (pickA lo hi st items.toList).toArray } })
    (hsz : (pickA lo hi st items.toList).length ≤ sizeLine) : wpAny (model prog w) A (getItem (.ref t) (.ref sl)) Q E s := by
  obtain ⟨ob, hob, hcl, hfs⟩ := id hs
  have hTs : s.TypeIs (.ref sl) "slice" := ⟨ob, hob, hcl⟩
  have hpk : ∀ b : Int, ∀ n : Nat, ((List.range n).filterMap fun (k : Nat) => items[(b + (k : Int) * st).toNat]?) = (List.range n).filterMap fun (k : Nat) => items.toList[(b + (k : Int) * st).toNat]? := fun b n => by
    congr 1; funext k; exact get_arr _ _
  unfold getItem
  try with_reducible refine wpAny_holding ?_
  first | refine wpAny_bind (wpAny_pure ?_) | skip
  refine wpAny_bind (wpAny_sequenceKey ht.typeIs (by decide) ?_)
  refine wpAny_bind (wpAny_callSpecial?_slot (name := Str.ofString "__getitem__") ht.typeIs PyProof.Rows.slot_tuple_getitem
    (wpAny_call_entry PyProof.Rows.slot_tuple_getitem ht.typeIs entry_tuple_getitem ?_ (args_tuple_getitem _ _)))
  show wpAny _ _ (Builtin.Tuple.tupleItemsOf (.ref t) >>= _) _ _ s
  refine wpAny_bind (tupleItemsOf_ ht ?_)
  refine wpAny_bind (wpAny_typeOf hTs ?_)
  rw [if_pos (by decide)]
  refine wpAny_bind (applied3 hs pl pu ps h0 ?_)
  have hl : (items.size : Nat) = items.toList.length := by simp
  unfold pickA at h hsz
  unfold wholeC at h1
  rw [hl]
  generalize hb : Builtin.Slice.sliceAdjust lo hi st (items.toList.length : Nat) = b at h1 h hsz ⊢
  show wpAny _ _ (if (b.1 == 0 && st == 1 && (Builtin.Slice.slicePlaces b.1 b.2 st) == items.size) = true then _ else _) _ _ s
  by_cases hc : (b.1 == 0 && st == 1 && (Builtin.Slice.slicePlaces b.1 b.2 st) == items.size) = true
  · rw [if_pos hc]
    rw [Bool.and_eq_true, Bool.and_eq_true] at hc
    have e1 : b.1 = 0 := eq_of_beq hc.1.1
    have e2 : st = 1 := eq_of_beq hc.1.2
    have e3 : Builtin.Slice.slicePlaces b.1 b.2 st = items.size := eq_of_beq hc.2
    refine wpAny_bind ?_
    show wpAny _ _ (typeOf (.ref t) >>= fun T => pure (T == .type "tuple")) _ _ s
    refine wpAny_bind (wpAny_typeOf ht.typeIs (wpAny_pure ?_))
    rw [if_pos (by decide)]
    have hq : Q (.ref t) s := h1 ⟨e1, e2, by rw [e3, hl]⟩
    first
      | exact wpAny_bind (wpAny_rule (wpAny_pure ⟨_, rfl, wpAny_pure hq⟩))
      | exact wpAny_bind (wpAny_bind (wpAny_rule (wpAny_pure ⟨_, rfl, wpAny_pure hq⟩)))
      | exact wpAny_bind (wpAny_rule (wpAny_bind (wpAny_pure (wpAny_pure ⟨_, rfl, wpAny_pure hq⟩))))
      | exact wpAny_bind (wpAny_bind (wpAny_rule (wpAny_pure (wpAny_pure ⟨_, rfl, wpAny_pure hq⟩))))
      | exact wpAny_bind (wpAny_rule (wpAny_bind (wpAny_pure ⟨_, rfl, wpAny_pure hq⟩)))
  · rw [if_neg hc, hpk]
    have htake : sizeOk (.seq (List.filterMap (fun (k : Nat) => items.toList[(b.1 + (k : Int) * st).toNat]?) (List.range (Builtin.Slice.slicePlaces b.1 b.2 st))).toArray) := by
      show (List.filterMap _ _).toArray.size ≤ sizeLine
      rw [List.size_toArray]; exact hsz
    first
      | exact wpAny_bind (m := Builtin.Tuple.tupleExact _) (wpAny_newObj_type (wpAny_pure ⟨_, rfl, wpAny_pure h⟩) htake)
      | exact wpAny_bind (m := Builtin.Tuple.tupleExact _) (wpAny_newObj_type (wpAny_bind (wpAny_pure (wpAny_pure ⟨_, rfl, wpAny_pure h⟩))) htake)
      | exact wpAny_bind (wpAny_bind (m := Builtin.Tuple.tupleExact _) (wpAny_newObj_type (wpAny_pure (wpAny_pure ⟨_, rfl, wpAny_pure h⟩)) htake))
      | exact wpAny_bind (wpAny_bind (m := Builtin.Tuple.tupleExact _) (wpAny_newObj_type (wpAny_pure ⟨_, rfl, wpAny_pure h⟩) htake))
end
theorem fm_congr {α β : Type} {f g : α → Option β} : ∀ {l : List α}, (∀ x ∈ l, f x = g x) → l.filterMap f = l.filterMap g
  | [], _ => rfl
  | x :: l, h => by
    rw [List.filterMap_cons, List.filterMap_cons, h x (List.mem_cons_self ..), fm_congr fun y hy => h y (List.mem_cons_of_mem _ hy)]
def colN {α : Type} (a w : Nat) (xs : List α) : List α := (List.range ((xs.length - a + w - 1) / w)).filterMap fun k => xs[a + w * k]?
theorem colN_map {α β : Type} (f : α → β) (a w : Nat) (xs : List α) : colN a w (xs.map f) = (colN a w xs).map f := by
  unfold colN
  rw [List.length_map, List.map_filterMap]
  congr 1; funext k; rw [List.getElem?_map]
theorem ceil_eq {d w : Nat} (hw : 0 < w) (hd : 0 < d) : (d - 1) / w + 1 = (d + w - 1) / w := by
  rw [show d + w - 1 = d - 1 + w by omega, Nat.add_div_right _ hw]
theorem pick_colA {α : Type} {a w : Nat} (hw : 0 < w) (xs : List α) : pickA (some (a : Int)) none (w : Int) xs = colN a w xs := by
  have h1 : Builtin.Slice.sliceAdjust (some (a : Int)) none (w : Int) xs.length = (((min a xs.length : Nat) : Int), (xs.length : Int)) := by
    unfold Builtin.Slice.sliceAdjust
    have q1 : ¬ ((w : Int) < 0) := by omega
    have q2 : ¬ ((a : Int) < 0) := by omega
    simp only [q1, if_false, q2]
    refine Prod.ext ?_ rfl
    show min (a : Int) (xs.length : Int) = ((min a xs.length : Nat) : Int)
    omega
  unfold pickA colN
  rw [h1]
  dsimp only
  by_cases ha : a < xs.length
  · have h2 : Builtin.Slice.slicePlaces ((min a xs.length : Nat) : Int) (xs.length : Int) (w : Int) = (xs.length - a + w - 1) / w := by
      unfold Builtin.Slice.slicePlaces
      have q1 : (w : Int) > 0 := by omega
      have q2 : ((min a xs.length : Nat) : Int) < (xs.length : Int) := by omega
      simp only [q1, if_true, q2]
      rw [show (xs.length : Int) - ((min a xs.length : Nat) : Int) - 1 = ((xs.length - a - 1 : Nat) : Int) by omega, ← Int.natCast_ediv, ← ceil_eq hw (by omega)]
      generalize (xs.length - a - 1) / w = q
      omega
    rw [h2]
    congr 1; funext k
    congr 1
    rw [show min a xs.length = a by omega, show ((a : Int) + (k : Int) * (w : Int)) = ((a + w * k : Nat) : Int) by push_cast; rw [Int.mul_comm]]
    rfl
  · have h2 : Builtin.Slice.slicePlaces ((min a xs.length : Nat) : Int) (xs.length : Int) (w : Int) = 0 := by
      unfold Builtin.Slice.slicePlaces
      have q1 : (w : Int) > 0 := by omega
      have q2 : ¬ ((min a xs.length : Nat) : Int) < (xs.length : Int) := by omega
      simp only [q1, if_true, q2, if_false]; rfl
    rw [h2, show (xs.length - a + w - 1) / w = 0 from Nat.div_eq_of_lt (by omega)]
    rfl
theorem pick_revA {α : Type} (xs : List α) : pickA none none (-1) xs = xs.reverse := by
  have h1 : Builtin.Slice.sliceAdjust none none (-1) xs.length = ((xs.length : Int) - 1, -1) := rfl
  have h2 : Builtin.Slice.slicePlaces ((xs.length : Int) - 1) (-1) (-1) = xs.length := by
    unfold Builtin.Slice.slicePlaces
    have q1 : ¬ ((-1 : Int) > 0) := by decide
    simp only [q1, if_false]
    by_cases h : (xs.length : Int) - 1 > -1
    · simp only [h, if_true]
      rw [show (- -1 : Int) = 1 by decide, Int.ediv_one]; omega
    · simp only [h, if_false]; omega
  unfold pickA
  rw [h1]
  dsimp only
  rw [h2]
  have h3 := PySem.W.krv_all xs.toArray
  rw [List.size_toArray] at h3
  have h4 : ((List.range xs.length).filterMap fun (k : Nat) => xs[((xs.length : Int) - 1 + (k : Int) * -1).toNat]?) = ((List.range xs.length).map fun k => xs.length - 1 - k).filterMap (xs.toArray[·]?) := by
    rw [List.filterMap_map]
    refine fm_congr fun k hk => ?_
    have := List.mem_range.mp hk
    simp only [Function.comp]
    rw [List.getElem?_toArray]
    congr 1; omega
  rw [h4, PySem.W.krv_range, List.filterMap_reverse, h3]
theorem pick_B {items : Array Value} {lo hi : Option Int} {st : Int} : slicePick items lo hi (some st) = (pickB lo hi st items.toList).toArray := by
  unfold slicePick pickB
  have hl : items.toList.length = items.size := by simp
  rw [hl]
  congr 1
  exact fm_congr fun k _ => get_arr items k
theorem pick_colB {α : Type} {a w : Nat} (hw : 0 < w) (xs : List α) : pickB (some (a : Int)) none (w : Int) xs = colN a w xs := by
  have h1 : sliceBounds (some (a : Int)) none (some (w : Int)) xs.length = (((min a xs.length : Nat) : Int), (xs.length : Int), (w : Int)) := by
    unfold sliceBounds
    have q1 : ((w : Int) > 0) := by omega
    have q2 : ¬ ((a : Int) < 0) := by omega
    simp only [Option.getD_some, q1, if_true, q2, if_false]
    refine Prod.ext ?_ rfl
    dsimp only
    omega
  unfold pickB colN
  rw [h1]
  dsimp only
  unfold sliceRange
  have q1 : ((w : Int) > 0) := by omega
  by_cases ha : a < xs.length
  · have q2 : ((min a xs.length : Nat) : Int) < (xs.length : Int) := by omega
    simp only [q1, if_true, q2]
    rw [show (xs.length : Int) - ((min a xs.length : Nat) : Int) + (w : Int) - 1 = ((xs.length - a + w - 1 : Nat) : Int) by omega, ← Int.natCast_ediv, Int.toNat_natCast, List.filterMap_map]
    congr 1; funext k
    simp only [Function.comp]
    congr 1
    rw [show min a xs.length = a by omega, show ((a : Int) + (w : Int) * (k : Int)) = ((a + w * k : Nat) : Int) by push_cast; rfl]
    rfl
  · have q2 : ¬ ((min a xs.length : Nat) : Int) < (xs.length : Int) := by omega
    simp only [q1, if_true, q2, if_false]
    rw [show (xs.length - a + w - 1) / w = 0 from Nat.div_eq_of_lt (by omega)]
    rfl
theorem pick_revB {α : Type} (xs : List α) : pickB none none (-1) xs = xs.reverse := by
  unfold pickB
  rw [PySem.W.krv_bounds]
  dsimp only
  rw [PySem.W.krv_sliceRange, PySem.W.krv_range, List.filterMap_reverse, range_all]
theorem vals_fm {xs : List V} {us : List Value} (h : Vals xs us) : ∀ (ks : List Nat), Vals (ks.filterMap fun k => xs[k]?) (ks.filterMap fun k => us[k]?)
  | [] => .nil
  | k :: ks => by
    have ih := vals_fm h ks
    rw [List.filterMap_cons, List.filterMap_cons]
    by_cases hk : k < xs.length
    · have hk2 : k < us.length := by rw [← h.length]; exact hk
      obtain ⟨u, hu, ru⟩ := h.get (List.getElem?_eq_getElem hk)
      rw [List.getElem?_eq_getElem hk, hu]
      exact .cons ru ih
    · rw [List.getElem?_eq_none (by omega), List.getElem?_eq_none (by rw [← h.length]; omega)]
      exact ih
theorem dqa_fm {K : PySem.W.Frag} {H : Hp} {xs : List V} {ds : List PyData} (h : DqAll K H xs ds) : ∀ (ks : List Nat), DqAll K H (ks.filterMap fun k => xs[k]?) (ks.filterMap fun k => ds[k]?)
  | [] => .nil
  | k :: ks => by
    have ih := dqa_fm h ks
    have hl := dpa_len h
    rw [List.filterMap_cons, List.filterMap_cons]
    by_cases hk : k < ds.length
    · obtain ⟨v, hv, iv⟩ := dpa_get h (List.getElem?_eq_getElem hk)
      rw [List.getElem?_eq_getElem hk, hv]
      exact .cons iv ih
    · rw [List.getElem?_eq_none (by omega), List.getElem?_eq_none (by omega)]
      exact ih
theorem pickA_fm {α : Type} (lo hi : Option Int) (st : Int) (xs : List α) : pickA lo hi st xs = (((List.range (Builtin.Slice.slicePlaces (Builtin.Slice.sliceAdjust lo hi st xs.length).1 (Builtin.Slice.sliceAdjust lo hi st xs.length).2 st)).map fun (k : Nat) => ((Builtin.Slice.sliceAdjust lo hi st xs.length).1 + (k : Int) * st).toNat)).filterMap fun k => xs[k]? := by
  rw [List.filterMap_map]; rfl
theorem pickA_vals {lo hi : Option Int} {st : Int} {xs : List V} {us : List Value} (h : Vals xs us) : Vals (pickA lo hi st xs) (pickA lo hi st us) := by
  rw [pickA_fm, pickA_fm, ← h.length]; exact vals_fm h _
theorem pickB_vals {lo hi : Option Int} {st : Int} {xs : List V} {us : List Value} (h : Vals xs us) : Vals (pickB lo hi st xs) (pickB lo hi st us) := by
  unfold pickB; rw [← h.length]; exact vals_fm h _
theorem pickA_dq {K : PySem.W.Frag} {H : Hp} {lo hi : Option Int} {st : Int} {xs : List V} {ds : List PyData} (h : DqAll K H xs ds) : DqAll K H (pickA lo hi st xs) (pickA lo hi st ds) := by
  rw [pickA_fm, pickA_fm, dpa_len h]; exact dqa_fm h _
theorem pickB_dq {K : PySem.W.Frag} {H : Hp} {lo hi : Option Int} {st : Int} {xs : List V} {ds : List PyData} (h : DqAll K H xs ds) : DqAll K H (pickB lo hi st xs) (pickB lo hi st ds) := by
  unfold pickB; rw [dpa_len h]; exact dqa_fm h _
theorem pickB_len {α : Type} {lo hi : Option Int} {st : Int} (xs : List Value) : (pickB lo hi st xs).length ≤ xs.length := by
  have h := slicePick_size_le xs.toArray lo hi (some st)
  rw [pick_B] at h
  simpa using h
def tSl3 (K : PySem.W.Frag) (te : TE) (tl tu ts : TO) : TE := fun σ H Q => te σ H fun x H1 => tl σ H1 fun l H2 => tu σ H2 fun u H3 => ts σ H3 fun o H4 => ∃ st, o = some st ∧ st ≠ 0 ∧
  ((∃ a xs, x = .ref a ∧ SqL K H4 a xs ∧ ∀ p, H4 p = none → Q (.ref p) (upd H4 p (.lst (pickB l u st xs)))) ∨
   (∃ a xs, x = .ref a ∧ SqT K H4 a xs ∧ (pickA l u st xs).length ≤ sizeLine ∧ (pickA l u st xs = xs → Q (.ref a) H4) ∧ ∀ p, H4 p = none → Q (.ref p) (upd H4 p (.tup (pickA l u st xs)))))
theorem pe_sl3 {X : Cx} {e : Expr} {lo hi st : Option Expr} {te : TE} {tl tu ts : TO} {p3 pos : Pos} (he : PE X e te) (hl : PO X lo tl) (hu : PO X hi tu) (hs : PO X st ts) (hsub : ∀ a b : Value, subscripted (.Slice lo hi st p3) false a b = operate [a, b] (getItem a b)) : PE X (.Subscript e (.Slice lo hi st p3) pos) (tSl3 X.K te tl tu ts) := by
  refine ⟨fun pins s σ H Q I h => ?_⟩
  refine Subscript_ (thn (he.run pins s σ H _ I h) fun v s1 ⟨x, H1, I1, r1, q1⟩ => ?_)
  refine wpAny_Slice (thn (hl.run pins s1 σ H1 _ I1 q1) fun vl s2 ⟨l, H2, I2, pl, q2⟩ => ?_)
  refine thn (hu.run pins s2 σ H2 _ I2 q2) fun vu s3 ⟨u, H3, I3, pu, q3⟩ => ?_
  refine thn (hs.run pins s3 σ H3 _ I3 q3) fun vs s4 ⟨o, H4, I4, ps, q4⟩ => ?_
  obtain ⟨st', rfl, h0, q4⟩ := q4
  have I5 : Inv X pins σ H4 { s4 with heap := s4.heap.push { cls := .type "slice", data := .fields #[vl, vu, vs] } } := I4.kept (t' := s4.toks) fun b ob q => Heap.get?_push_of_some _ q
  rcases q4 with ⟨a, xs, rfl, hx, q⟩ | ⟨a, xs, rfl, hx, hln, q1, q⟩
  · cases r1
    obtain ⟨its, r, ht, hz⟩ := I5.list hx
    have hlen := r.length
    have hsz : its.length ≤ sizeLine := by rw [← hlen]; exact hz
    show wpAny (model X.prog X.w) X.A (subscriptTail e (.Slice lo hi st p3) (.ref a) (.ref s4.heap.objs.size)) (EP X pins σ Q) X.xe { s4 with heap := s4.heap.push { cls := .type "slice", data := .fields #[vl, vu, vs] } }
    have gi : wpAny (model X.prog X.w) X.A (getItem (.ref a) (.ref s4.heap.objs.size)) (EP X pins σ Q) X.xe { s4 with heap := s4.heap.push { cls := .type "slice", data := .fields #[vl, vu, vs] } } := by
      refine wpAny_getItem_list_slice ht.isList (Heap.IsSliceOf.new _ vl vu vs) pl pu ps (by simpa using h0) ?_ (by rw [List.size_toArray]; exact hsz)
      rw [pick_B]
      refine ⟨.ref _, _, I5.laid (t' := s4.toks) (o := .lst (pickB l u st' xs)) (fun b ob q => Heap.get?_push_of_some _ q) (Nat.le_refl _) ?_, rfl, q _ (I5.hok.fresh (Nat.le_refl _))⟩
      have hv := pickB_vals (lo := l) (hi := u) (st := st') r
      refine ⟨?_, _, 0, hv, Heap.get?_push_size _ rfl⟩
      rw [hv.length]
      exact Nat.le_trans (pickB_len (α := Value) its) hsz
    refine tail_any (ops := [.ref a, .ref s4.heap.objs.size]) ht.isList.typeIs (PySem.slot_list_getitem.lookup) gi (hsub _ _)
  · cases r1
    obtain ⟨its, r, ht, hz⟩ := I5.tuple hx
    have hlen := r.length
    have hv := pickA_vals (lo := l) (hi := u) (st := st') r
    show wpAny (model X.prog X.w) X.A (subscriptTail e (.Slice lo hi st p3) (.ref a) (.ref s4.heap.objs.size)) (EP X pins σ Q) X.xe { s4 with heap := s4.heap.push { cls := .type "slice", data := .fields #[vl, vu, vs] } }
    have gi : wpAny (model X.prog X.w) X.A (getItem (.ref a) (.ref s4.heap.objs.size)) (EP X pins σ Q) X.xe { s4 with heap := s4.heap.push { cls := .type "slice", data := .fields #[vl, vu, vs] } } := by
      refine item3_tup ht (Heap.IsSliceOf.new _ vl vu vs) pl pu ps h0 (fun hw => ?_) ?_ (by
        have : (pickA l u st' its.toArray.toList).length = (pickA l u st' xs).length := by rw [hv.length]
        rw [this]; exact hln)
      · refine ⟨.ref a, H4, I5, rfl, q1 (pick_whole ?_)⟩
        have hw : wholeC l u st' its.length := hw
        rwa [← hlen] at hw
      · refine ⟨.ref _, _, I5.laid (t' := s4.toks) (o := .tup (pickA l u st' xs)) (fun b ob q => Heap.get?_push_of_some _ q) (Nat.le_refl _) ?_, rfl, q _ (I5.hok.fresh (Nat.le_refl _))⟩
        exact ⟨hln, _, hv, IsTup.new _ _⟩
    refine tail_any (ops := [.ref a, .ref s4.heap.objs.size]) ht.typeIs (PyProof.Rows.slot_tuple_getitem.lookup) gi (hsub _ _)
section
variable {c : Cd} {N : List Str} {sc : Scope} {k : Nat} {Γ : Gx} {M : Mem} {P : D → Mem → Prop} {e lo hi st : Expr} {pos p p2 : Pos} {x : D}
def OS3 (c : Cd) (x : D) (lo hi : Option Int) (z : Option Int) (M : Mem) (P : D → Mem → Prop) : Prop := ∃ st : Int, z = some st ∧ st ≠ 0 ∧
  ((∃ ds, Rdd M x (.list ds) ∧ ∀ a, P (.own a) ((a, .lst (pickB lo hi st ds)) :: M)) ∨ (∃ ds, x = dT ds ∧ (pickA lo hi st ds).length ≤ 100000 ∧ P (dT (pickA lo hi st ds)) M))
theorem os3_v {B : Bs} {H H1 : Hp} {v : V} {l u z : Option Int} {Q : VK} (o : c.Ok N sc k) (w : OS3 c x l u z M P) (t : Tr c.G c.B H H1 M) (iv : Is c.G H v x) (q : ∀ d M' z H' H2, P d M' → Tr c.G c.B H' H2 M' → Ex H H' → Is c.G H' z d → Q z H2) :
    ∃ st, z = some st ∧ st ≠ 0 ∧ ((∃ a xs, v = .ref a ∧ SqL c.X.K H1 a xs ∧ ∀ p, H1 p = none → Q (.ref p) (upd H1 p (.lst (pickB l u st xs)))) ∨
      (∃ a xs, v = .ref a ∧ SqT c.X.K H1 a xs ∧ (pickA l u st xs).length ≤ sizeLine ∧ (pickA l u st xs = xs → Q (.ref a) H1) ∧ ∀ p, H1 p = none → Q (.ref p) (upd H1 p (.tup (pickA l u st xs))))) := by
  obtain ⟨st, hz, h0, w⟩ := w
  rw [show c.X.K = c.G.K from o.K]
  refine ⟨st, hz, h0, ?_⟩
  rcases w with ⟨ds, hr, p⟩ | ⟨ds, rfl, hl, p⟩
  · obtain ⟨a, xs, h1, h2, h3⟩ := rd_l t iv hr
    refine .inl ⟨a, xs, h1, h2, fun b hb => ?_⟩
    have t2 := t.ok.newOwn (o := .lst (pickB l u st xs)) (c := .lst (pickB l u st ds)) hb rfl ⟨_, upd_same, pickB_dq h3⟩
    exact q _ _ _ _ _ (p b) (t.trans t2) t2.ex rfl
  · obtain ⟨a, xs, rfl, h2, h3⟩ := Is.tup iv
    have h4 := pickA_dq (lo := l) (hi := u) (st := st) h3
    refine .inr ⟨a, xs, rfl, Evl.ex_t t.ok.ex h2, by rw [dpa_len h4]; exact Evl.sz_of hl, fun hw => ?_, fun b hb => ?_⟩
    · rw [hw] at h4
      exact q _ _ _ _ _ p t (Evl.Ex.refl H) (Dq.tup h2 h4)
    · have t2 := t.ok.new (o := .tup (pickA l u st xs)) hb
      exact q _ _ _ _ _ p (t.trans t2) t2.ex (Dq.tup (SqT.of upd_same) (dpa_mono t2.ex _ _ h4))
theorem e_slice3r (o : c.Ok N sc k) (hsub : ∀ a b : Value, subscripted (.Slice none none (some st) p2) false a b = operate [a, b] (getItem a b)) (h : Ee c Γ M e fun x M1 => Ee c Γ M1 st fun z M4 => ∃ n, z = dI n ∧ OS3 c x none none (some n) M4 P) : Ee c Γ M (.Subscript e (.Slice none none (some st) p2) pos) P :=
  e_of (pe_sl3 pe_sem po_none po_none (po_some pe_sem) hsub) fun σ H H1 Q tr sl q => h σ H H1 _ tr sl fun x M1 v H' H2 p t e1 iv => p σ H' H2 _ t (sl.mono e1) fun d2 M2 v2 H3 H4 p2 t2 e2 i2 => by
    obtain ⟨n, rfl, p2⟩ := p2
    exact ⟨n, i2.int, os3_v (B := c.B) o p2 t2 (iv.mono e2) fun d M' z H5 H6 p3 t3 e3 i3 => q d M' z H5 H6 p3 t3 ((e1.trans e2).trans e3) i3⟩
theorem e_slice3c (o : c.Ok N sc k) (hsub : ∀ a b : Value, subscripted (.Slice (some lo) none (some st) p2) false a b = operate [a, b] (getItem a b)) (h : Ee c Γ M e fun x M1 => Ee c Γ M1 lo fun y M2 => ∃ m, y = dI m ∧ Ee c Γ M2 st fun z M4 => ∃ n, z = dI n ∧ OS3 c x (some m) none (some n) M4 P) : Ee c Γ M (.Subscript e (.Slice (some lo) none (some st) p2) pos) P :=
  e_of (pe_sl3 pe_sem (po_some pe_sem) po_none (po_some pe_sem) hsub) fun σ H H1 Q tr sl q => h σ H H1 _ tr sl fun x M1 v H' H2 p t e1 iv => p σ H' H2 _ t (sl.mono e1) fun d0 M0 v0 Ha Hb p0 t0 e0 i0 => by
    obtain ⟨m, rfl, p0⟩ := p0
    refine ⟨m, i0.int, p0 σ Ha Hb _ t0 (sl.mono (e1.trans e0)) fun d2 M2 v2 H3 H4 p2 t2 e2 i2 => ?_⟩
    obtain ⟨n, rfl, p2⟩ := p2
    exact ⟨n, i2.int, os3_v (B := c.B) o p2 t2 (iv.mono (e0.trans e2)) fun d M' z H5 H6 p3 t3 e3 i3 => q d M' z H5 H6 p3 t3 ((e1.trans (e0.trans e2)).trans e3) i3⟩
theorem s3_revL {ds : List PyData} (h : Rdd M x (.list ds)) (p : ∀ a, P (.own a) ((a, .lst ds.reverse) :: M)) : OS3 c x none none (some (-1)) M P := ⟨-1, rfl, by decide, .inl ⟨ds, h, by rw [pick_revB]; exact p⟩⟩
theorem s3_revT {ds : List PyData} (hl : ds.length ≤ 100000) (p : P (dT ds.reverse) M) : OS3 c (dT ds) none none (some (-1)) M P := ⟨-1, rfl, by decide, .inr ⟨ds, rfl, by rw [pick_revA, List.length_reverse]; exact hl, by rw [pick_revA]; exact p⟩⟩
theorem s3_colL {ds : List PyData} {a w : Nat} (h : Rdd M x (.list ds)) (hw : 0 < w) (p : ∀ b, P (.own b) ((b, .lst (colN a w ds)) :: M)) : OS3 c x (some (a : Int)) none (some (w : Int)) M P := ⟨w, rfl, by omega, .inl ⟨ds, h, by rw [pick_colB hw]; exact p⟩⟩
theorem colN_len {α : Type} (a w : Nat) (xs : List α) : (colN a w xs).length ≤ xs.length + w := by
  unfold colN
  refine Nat.le_trans (List.length_filterMap_le _ _) ?_
  rw [List.length_range]
  exact Nat.le_trans (Nat.div_le_self _ _) (by omega)
theorem s3_colT {ds : List PyData} {a w : Nat} (hl : ds.length ≤ 90000) (hw : 0 < w) (hw2 : w ≤ 1000) (p : P (dT (colN a w ds)) M) : OS3 c (dT ds) (some (a : Int)) none (some (w : Int)) M P := ⟨w, rfl, by omega, .inr ⟨ds, rfl, by
  rw [pick_colA hw]; have := colN_len a w ds; omega, by rw [pick_colA hw]; exact p⟩⟩
end
end CR

namespace CR
open PySem PySem.Spec PyProof.Rows L2
open Evl (Ex)
section
variable {c : Cd} {N : List Str} {sc : Scope} {k : Nat} {Γ : Gx} {M : Mem} {P : D → Mem → Prop} {nx_ : Gx → Mem → Prop} {rt_ : D → Mem → Prop} {bk_ ct_ : Gx → Mem → Prop} {e a b : Expr} {es : List Expr} {pos p : Pos}
theorem sq_ret {t : TS} (h : Sq c t Γ M ⟨fun Γ' M1 => ∃ M2, Conv c.G M1 M2 ∧ nx_ Γ' M2, fun d M1 => ∃ M2, Conv c.G M1 M2 ∧ rt_ d M2, bk_, ct_⟩) : Sq c t Γ M ⟨nx_, rt_, bk_, ct_⟩ := fun σ H H1 E tr sl r =>
  h σ H H1 E tr sl ⟨fun Γ M1 σ H H1 ⟨M2, v, p⟩ tr => r.nx Γ M2 σ H H1 p (v.tr tr), fun d M1 v H H1 ⟨M2, cv, p⟩ tr => r.rt d M2 v H H1 p (cv.tr tr), r.bk, r.ct⟩
theorem e_dct0 (p : ∀ a, P (.own a) ((a, .dic []) :: M)) : Ee c Γ M (.Dict [] [] pos) P := e_of pe_dnewK fun σ H H1 Q tr sl q a ha => by
  have t2 := tr.ok.newOwn (o := .dK []) (c := .dic []) ha rfl ⟨[], upd_same, .nil⟩
  exact q _ _ _ _ _ (p a) (tr.trans t2) t2.ex rfl
abbrev DcW (c : Cd) (N : List Str) (sc scope : Scope) (k : Nat) (Γ : Gx) (vs : List Nat) (tg : Expr) (ifs : List Expr) (kx vx : Expr) (P : D → Mem → Prop) : Nat → (Nat → D) → (Mem → Prop) → Mem → Prop := fun n f Kp M1 =>
  ∃ J : Nat → List (Key × D) → Mem → Prop, J 0 [] M1 ∧ (∀ i kvs M' a, i ≤ n → J i kvs M' → Kp ((a, .dic kvs) :: M')) ∧
      (∀ i kvs M' a, i < n → J i kvs M' → ∀ X1, (c.blk X1).Ok N (relS scope sc) k → Egv (c.blk X1) (wipeE Γ vs) ((a, .dic kvs) :: M') tg (f i) vs fun Γ2 M2 => ∀ X2, (c.blk X2).Ok N (relS scope sc) k → Ets (c.blk X2) Γ2 M2 ifs fun b M3 =>
        (b = true → ∀ X3, (c.blk X3).Ok N (relS scope sc) k → Ee (c.blk X3) Γ2 M3 kx fun y M4 => ∀ X4, (c.blk X4).Ok N (relS scope sc) k → Ee (c.blk X4) Γ2 M4 vx fun z M5 => ∃ ky m M6, y = kD ky ∧ M5[m]? = some (a, .dic kvs) ∧ kvs.length < 100000 ∧
          Conv c.G (M5.set m (a, .dic (putD kvs ky z))) ((a, .dic (putD kvs ky z)) :: M6) ∧ J (i + 1) (putD kvs ky z) M6) ∧ (b = false → ∃ M5, M3 = (a, .dic kvs) :: M5 ∧ J (i + 1) kvs M5)) ∧
      (∀ kvs M' a, J n kvs M' → P (.own a) ((a, .dic kvs) :: M'))
theorem tdc_of {kx vx tg iter : Expr} {ifs : List Expr} {scope : Scope} {vs : List Nat} {σ : L2.St} {H H1 : Hp} {Q : VK} (o : c.Ok N sc k) (tr : Tr c.G c.B H H1 M) (sl : Slots c.G H σ Γ)
    (h : Ei c Γ M tg iter (DcW c N sc scope k Γ vs tg ifs kx vx P))
    (q : ∀ d M' v H' H2, P d M' → Tr c.G c.B H' H2 M' → Ex H H' → Is c.G H' v d → Q v H2) :
    tDc (iSem c.X tg iter) (fun v σ H Q => ∀ s Hh C cl fp, gSem (c.X.blk s Hh scope (compEnvC scope cl C c.X.env) fp) tg v σ H Q) (fun σ H Q => ∀ s Hh C cl fp, tsSem (c.X.blk s Hh scope (compEnvC scope cl C c.X.env) fp) ifs σ H Q)
      (fun σ H Q => ∀ s Hh C cl fp, eSem (c.X.blk s Hh scope (compEnvC scope cl C c.X.env) fp) kx σ H Q) (fun σ H Q => ∀ s Hh C cl fp, eSem (c.X.blk s Hh scope (compEnvC scope cl C c.X.env) fp) vx σ H Q) vs σ H1 Q := h σ H H1 _ tr sl fun n f Kp M1 It' H' H2 p1 tr1 e1 it a ha => by
  obtain ⟨Jv, j0, jk, js, jd⟩ := p1
  have t0 := tr1.ok.newOwn (o := .dK []) (c := .dic []) ha rfl ⟨[], upd_same, .nil⟩
  refine ⟨fun i m Hq => m = n - i ∧ i ≤ n ∧ ∃ acc M' H'', Jv i acc M' ∧ Tr c.G c.B H'' Hq ((a, .dic acc) :: M') ∧ Ex H' H'', ⟨n, by simp, Nat.zero_le _, [], M1, H', j0, tr1.trans t0, Evl.Ex.refl H'⟩, ?_⟩
  rintro i m Hq ⟨rfl, hi, acc, M', H'', j, t, ex⟩
  obtain ⟨hstop, hgo⟩ := it i H'' Hq _ t ex (jk i acc M' a hi j)
  by_cases hlt : i < n
  · obtain ⟨g1, g2⟩ := hgo hlt
    refine .inr ⟨g1, fun H6 => ∃ acc M5 H5, Jv (i + 1) acc M5 ∧ Tr c.G c.B H5 H6 ((a, .dic acc) :: M5) ∧ Ex H' H5, fun H6 p5 => ⟨n - (i + 1), by omega, rfl, hlt, p5⟩, fun x Hp' y s Hh C cl fp => ?_⟩
    obtain ⟨H3, t3, e3, i3⟩ := g2 x Hp' y
    refine js i acc M' a hlt j _ (ok_blk (scope := scope) (s := s) (H := Hh) (C := C) (cl := cl) (fp := fp) o) (L2.wipe σ vs) H3 Hp' x _ t3 ((sl.mono ((e1.trans ex).trans e3)).wipe vs) i3 fun Γ2 M2 σ2 H4 H5 p2 t2 x2 s2 hw => ⟨by rw [hw, wipe_wipe fun v hv => hv], fun s' Hh' C' cl' fp' => ?_⟩
    refine p2 _ (ok_blk (scope := scope) (s := s') (H := Hh') (C := C') (cl := cl') (fp := fp') o) σ2 H4 H5 _ t2 s2 fun b M3 H6 H7 p6 t6 x6 => ?_
    have e6 : Ex H' H6 := ((ex.trans e3).trans x2).trans x6
    cases b with
    | false =>
      rw [if_neg Bool.false_ne_true]
      obtain ⟨M5, rfl, j5⟩ := p6.2 rfl
      exact ⟨acc, M5, H6, j5, t6, e6⟩
    | true =>
      rw [if_pos rfl]
      intro s3 Hh3 C3 cl3 fp3
      refine p6.1 rfl _ (ok_blk (scope := scope) (s := s3) (H := Hh3) (C := C3) (cl := cl3) (fp := fp3) o) σ2 H6 H7 _ t6 (s2.mono x6) fun y M4 w H8 H9 p8 t8 x8 i8 => ?_
      intro s4 Hh4 C4 cl4 fp4
      refine p8 _ (ok_blk (scope := scope) (s := s4) (H := Hh4) (C := C4) (cl := cl4) (fp := fp4) o) σ2 H8 H9 _ t8 (s2.mono (x6.trans x8)) fun z M5 w2 H10 H11 p10 t10 x10 i10 => ?_
      obtain ⟨ky, m, M6, rfl, hm, hl, hc, j5⟩ := p10
      have t10 : Tr c.G c.B H10 H11 M5 := t10
      obtain ⟨ws, h1, h2⟩ := t10.ok.cells a _ (List.mem_of_getElem? hm)
      refine ⟨ws, ky, kD_v i8, h1, Evl.sz_lt (by rw [pk_len h2]; exact hl), putD acc ky z, M6, H10, j5, ?_, (e6.trans x8).trans x10⟩
      have t9 := t10.ok.put (i := m) (c' := .dic (putD acc ky z)) (H2 := upd H11 a (.dK (putK ws ky w2))) hm rfl (fun b o hb hq => by rw [upd_ne (by simpa [fp1] using hb)]; exact hq) ⟨_, upd_same, pk_put i10 h2⟩
      exact hc.tr (t10.trans t9)
  · have e : i = n := by omega
    subst e
    exact .inl ⟨hstop (Nat.le_refl _), q _ _ _ H'' Hq (jd acc M' a j) t (e1.trans ex) rfl⟩
theorem e_dc {kx vx tg iter : Expr} {ifs : List Expr} {scope : Scope} (own : List (Str × Nat)) (o : c.Ok N sc k) (ok : blkC N sc scope own = true) (hs : ∀ x, foldedSetIterable iter c.X.env x = pure x)
    (h : Ei c Γ M tg iter (DcW c N sc scope k Γ (own.map (·.2)) tg ifs kx vx P)) : Ee c Γ M (.DictComp kx vx [⟨tg, iter, ifs, 0⟩] scope pos) P := by
  refine e_of (pe_dc (own := own) o.calm (by rw [o.hN]; exact o.nd) pi_sem (by rw [o.hN, o.esc]; exact blkOk_by ok) (fun s H C cl fp => ?_) (fun s H C cl fp => ?_) (fun s H C cl fp => ?_) (fun s H C cl fp => ?_) hs) fun σ H H1 Q tr sl q => tdc_of o tr sl h q
  · exact ⟨fun pins s σ H v u Q I r h => h _ _ _ _ _ pins s u I r⟩
  · exact ⟨fun pins s σ H Q I h => h _ _ _ _ _ pins s I⟩
  · exact ⟨fun pins s σ H Q I h => h _ _ _ _ _ pins s I⟩
  · exact ⟨fun pins s σ H Q I h => h _ _ _ _ _ pins s I⟩
theorem g_ix {a b : Expr} {apos : Pos} {d : D} {Pg : Gx → Mem → Prop} (ok : c.Ok N sc k)
    (ha : ∀ v, assign (.Subscript a b apos) c.X.env v = (do
      let ov ← holding [v] (eval a c.X.env)
      let iv ← holding [v, ov] (eval b c.X.env)
      standAt apos
      holding [v, ov, iv] (setItem ov iv v)
      release [v, ov, iv] []))
    (h : Ee c Γ M a fun x M2 => Ee c Γ M2 b fun z M3 => ∃ (l : Addr) (i : Int) (j n : Nat), x = .own l ∧ z = dI i ∧ ∃ ds p, M3[n]? = some (l, .lst ds) ∧ d = .p p ∧ j < ds.length ∧ i = (j : Int) ∧ Pg Γ (M3.set n (l, .lst (ds.set j p)))) :
    Eg c Γ M (.Subscript a b apos) d Pg := fun σ H H1 v Q tr sl iv q =>
  pg_to (pg_sub pe_sem pe_sem (PSet.or2 set_list (set_dict (by have := ok.room.units; omega))) ha) (h σ H H1 _ tr sl fun x M2 u H3 H4 p2 t2 e2 i2 => by
    refine p2 σ H3 H4 _ t2 (sl.mono e2) fun z M3 w H5 H6 p3 t3 e3 i3 => ?_
    obtain ⟨l, i, j, n, rfl, rfl, ds, p, hn, rfl, hj, rfl, pp⟩ := p3
    obtain ⟨ws, g1, g2⟩ := t3.ok.cells _ _ (List.mem_of_getElem? hn)
    have hl := dpa_len g2
    exact .inl ⟨l, ws, _, j, i2, i3.int, g1, Evl.ixN_nat (by omega), q _ _ _ H5 _ pp (put_own (vs := ws) t3 hn (dpa_set j (dp_mono (e2.trans e3) _ _ iv) g2)) (e2.trans e3) (sl.mono (e2.trans e3))⟩)
theorem s_swp {t1 t2 : Expr} {kt k2 : Nat} {pt pt2 : Pos} (o : c.Ok N sc k)
    (hw : swappedStores [.Tuple [t1, t2] kt pt] (.Tuple [a, b] k2 pt2) (envS sc) = pure none) (hs : swapsWithSole [.Tuple [t1, t2] kt pt] (.Tuple [a, b] k2 pt2) pos.line c.X.env = pure false)
    (g1 : (assignEach [t2] c.X.env).map (·.2) = assign t2 c.X.env :: (assignEach [] c.X.env).map (·.2)) (g2 : (assignEach [t1, t2] c.X.env).map (·.2) = assign t1 c.X.env :: (assignEach [t2] c.X.env).map (·.2))
    (hn : (assignEach [t1, t2] c.X.env).length = 2) (hst : (assignEach [t1, t2] c.X.env).findIdx? (·.1) = none) (g3 : (assignEach [.Tuple [t1, t2] kt pt] c.X.env).map (·.2) = [assign (.Tuple [t1, t2] kt pt) c.X.env])
    (h : Ea c Γ M [a, b] fun ds M1 => ∃ u v, ds = [u, v] ∧ Eg c Γ M1 t1 u fun Γ2 M2 => Eg c Γ2 M2 t2 v nx_) : Es c Γ M (.Assign [.Tuple [t1, t2] kt pt] (.Tuple [a, b] k2 pt2) pos) ⟨nx_, rt_, bk_, ct_⟩ := by
  refine s_of (ps_asg (pe_tup pa_sem) (pg_tup o.calm (pgs_cons pg_sem (pgs_cons pg_sem pgs_nil g1) g2) hn hst) hs (by rw [sw_env, o.esc]; exact hw) g3) fun σ H H1 E tr sl r => h σ H H1 _ tr sl fun ds M1 vs H' H2 p t ex is => ?_
  obtain ⟨u, v, rfl, p⟩ := p
  obtain ⟨v1, v2, rfl, i1, i2⟩ := is2 is
  refine ⟨by show 2 ≤ sizeLine; decide, fun q hq => ?_⟩
  refine ⟨q, _, rfl, SqT.of upd_same, rfl, v1, [v2], rfl, ?_⟩
  have tj := t.trans (t.ok.junk (o := .tup [v1, v2]) hq)
  refine p σ H' _ v1 _ tj (sl.mono ex) i1 fun Γ2 M2 σ2 H3 H4 p2 t2 e2 s2 => ?_
  refine ⟨v2, [], rfl, p2 σ2 H3 H4 v2 _ t2 s2 (i2.mono e2) fun Γ3 M3 σ3 H5 H6 p3 t3 e3 s3 => ?_⟩
  exact ⟨rfl, r.nx _ M3 _ H5 _ p3 t3 ((ex.trans e2).trans e3) s3⟩
theorem s_augI {x : Str} {i : Nat} {pos' : Pos} [hi : At N x i] (o : c.Ok N sc k) (hl : L2.Loc sc x) (hf : sc.names.lookup x = some .local ∨ c.lvl = true) {v : Int} (hx : Γ[i]? = some (some (dI v)))
    (h : Ee c Γ M e fun d M1 => ∃ w, d = dI w ∧ nx_ (Γ.set i (some (dI (v + w)))) M1) : Es c Γ M (.AugAssign (.Name x pos') .Add e pos) ⟨nx_, rt_, bk_, ct_⟩ :=
  s_of (ps_aug (i := i) (by rw [o.hN]; exact o.nd) (by rw [o.hN]; exact hi.at_) (loc_of o hl) pe_sem ip_add (fn_of' o hf)) fun σ H H1 E tr sl r => by
    obtain ⟨u, h1, h2⟩ := sl.at_ i (dI v) hx
    refine ⟨u, h1, h σ H H1 _ tr sl fun d M' w H' H2 p t ex iw => ?_⟩
    obtain ⟨z, rfl, p⟩ := p
    rw [h2.int, iw.int]
    exact ⟨v, z, rfl, rfl, r.nx _ M' _ H' H2 p t ex ((sl.mono ex).set i (show Is c.G H' (.int (v + z)) (dI (v + z)) from Dq.int _))⟩
end
end CR

namespace CR
open PySem PySem.Spec PyProof.Rows L2
def StepOk (st : List Int) : Prop := 1 ≤ st.length ∧ st.length ≤ 3 ∧ (st.map Int.natAbs).Perm ((List.range st.length).map (· + 1))
def StepsOk (ss : List (List Int)) : Prop := ss.length ≤ 3 ∧ ∀ s ∈ ss, StepOk s
def absI (i : Int) : Int := if i < 0 then -i else i
def NUMS : List Str := ["-3", "-2", "-1", "1", "2", "3"]
def isWhole (st : List Int) : Bool := decide (st ≠ []) && decide ((st.map absI).Perm (rgI 1 (st.length + 1)))
def numOf (w : Str) : Int := (intText? w).getD 0
def canStand (w : Str) (n : Nat) (st : List Int) : Bool := if w = "/" then isWhole st && decide (n + 1 < 3) else if w ∉ NUMS ∨ st.length = 3 then false else decide (absI (numOf w) ∉ st.map absI)
def rdStep (p : List (List Int) × List Int) (w : Str) : Option (List (List Int) × List Int) := if canStand w p.1.length p.2 then some (if w = "/" then (p.1 ++ [p.2], []) else (p.1, p.2 ++ [numOf w])) else none
def run (ws : List Str) (p : List (List Int) × List Int) : Option (List (List Int) × List Int) := ws.foldlM rdStep p
def wds : List (List Int) → List Str
  | [] => []
  | [s] => s.map numW
  | s :: t :: r => s.map numW ++ ("/" : Str) :: wds (t :: r)
def wordsD (ss : List (List Int)) : List Str := if wds ss = [] then ["-"] else wds ss
def Num6 (i : Int) : Prop := i = 1 ∨ i = 2 ∨ i = 3 ∨ i = -1 ∨ i = -2 ∨ i = -3
theorem num6_of {st : List Int} (h : StepOk st) {i : Int} (hi : i ∈ st) : Num6 i := by
  have : i.natAbs ∈ (List.range st.length).map (· + 1) := h.2.2.mem_iff.mp (List.mem_map_of_mem hi)
  simp at this
  obtain ⟨j, hj, hj2⟩ := this
  have := h.2.1
  unfold Num6; omega
theorem numW_in {i : Int} (h : Num6 i) : numW i ∈ NUMS ∧ numW i ≠ "/" ∧ numW i ≠ "-" ∧ intText? (numW i) = some i ∧ 32 ∉ (numW i).cps.toList ∧ (numW i).length ≤ 2 ∧ PyData.strOk (numW i) = true := by
  rcases h with rfl | rfl | rfl | rfl | rfl | rfl <;> decide +kernel
theorem abs_nat (i : Int) : absI i = (i.natAbs : Int) := by unfold absI; omega
theorem isWhole_ok {s : List Int} (h : StepOk s) : isWhole s = true := by
  obtain ⟨h1, h2, h3⟩ := h
  have e : s.map absI = (s.map Int.natAbs).map (fun n : Nat => (n : Int)) := by
    rw [List.map_map]; exact List.map_congr_left fun i _ => abs_nat i
  have e2 : rgI 1 (s.length + 1) = ((List.range s.length).map (· + 1)).map (fun n : Nat => (n : Int)) := by
    unfold rgI
    rw [List.map_map, show ((s.length : Int) + 1 - 1).toNat = s.length by omega]
    exact List.map_congr_left fun i _ => by simp only [Function.comp]; omega
  have h0 : s ≠ [] := by rintro rfl; simp at h1
  unfold isWhole
  rw [e, e2, decide_eq_true h0, decide_eq_true (h3.map _)]; rfl
theorem nodup_of {s : List Int} (h : StepOk s) : (s.map absI).Nodup := by
  have e : s.map absI = (s.map Int.natAbs).map (fun n : Nat => (n : Int)) := by
    rw [List.map_map]; exact List.map_congr_left fun i _ => abs_nat i
  rw [e]
  refine List.Pairwise.map _ (fun a b hab => by omega) (h.2.2.nodup_iff.mpr ?_ : (s.map Int.natAbs).Nodup)
  exact List.Pairwise.map _ (fun a b hab => by omega) (List.nodup_range (n := s.length))
theorem run_step {pre : List (List Int)} : ∀ (s st : List Int), StepOk (st ++ s) → run (s.map numW) (pre, st) = some (pre, st ++ s)
  | [], st, h => by simp [run]
  | i :: s, st, h => by
    have h6 := num6_of h (i := i) (by simp)
    obtain ⟨n1, n2, n3, n4, _⟩ := numW_in h6
    have hn : numOf (numW i) = i := by unfold numOf; rw [n4]; rfl
    have hnd := nodup_of h
    rw [List.map_append, List.map_cons] at hnd
    have hni : absI i ∉ st.map absI := fun z => (List.nodup_append.mp hnd).2.2 _ z _ (List.mem_cons_self ..) rfl
    have hl : st.length ≠ 3 := by have := h.2.1; simp at this; omega
    have hc : canStand (numW i) pre.length st = true := by
      unfold canStand
      rw [if_neg n2, if_neg (by simp [n1, hl]), hn]
      exact decide_eq_true hni
    have ih := run_step (pre := pre) s (st ++ [i]) (by simpa using h)
    unfold run at ih ⊢
    rw [List.map_cons, List.foldlM_cons]
    simp only [rdStep, hc, if_true, n2, if_false, hn]
    simpa using ih
theorem run_app {a b : List Str} {p : List (List Int) × List Int} : run (a ++ b) p = (run a p).bind (run b) := by
  unfold run; rw [List.foldlM_append]; rfl
theorem run_wds : ∀ (ss pre : List (List Int)) (hne : ss ≠ []), (∀ s ∈ ss, StepOk s) → pre.length + ss.length ≤ 3 → run (wds ss) (pre, []) = some (pre ++ ss.dropLast, ss.getLast hne)
  | [], _, h, _, _ => absurd rfl h
  | [s], pre, _, h, _ => by
    have := run_step (pre := pre) s [] (h s (by simp))
    simpa [wds] using this
  | s :: t :: r, pre, _, h, hl => by
    have h1 := run_step (pre := pre) s [] (h s (by simp))
    rw [wds, run_app, h1, Option.bind_some]
    have hc : canStand "/" pre.length s = true := by
      unfold canStand
      rw [if_pos rfl, isWhole_ok (h s (by simp))]
      simp at hl ⊢; omega
    have ih := run_wds (t :: r) (pre ++ [s]) (by simp) (fun x hx => h x (List.mem_cons_of_mem _ hx)) (by simp at hl ⊢; omega)
    show List.foldlM rdStep (pre, [] ++ s) ("/" :: wds (t :: r)) = _
    rw [List.foldlM_cons]
    simp only [rdStep, List.nil_append, hc, if_true]
    show run (wds (t :: r)) (pre ++ [s], []) = _
    rw [ih]; simp
theorem run_take {ws : List Str} {p q : List (List Int) × List Int} (h : run ws p = some q) (i : Nat) : ∃ p', run (ws.take i) p = some p' := by
  rw [← List.take_append_drop i ws, run_app] at h
  cases e : run (ws.take i) p with
  | none => rw [e] at h; cases h
  | some p' => exact ⟨p', rfl⟩
theorem run_next {ws : List Str} {p p' q : List (List Int) × List Int} {i : Nat} (hi : i < ws.length) (h : run ws p = some q) (h1 : run (ws.take i) p = some p') : ∃ p'', rdStep p' ws[i] = some p'' ∧ run (ws.take (i + 1)) p = some p'' := by
  obtain ⟨p'', h2⟩ := run_take h (i + 1)
  refine ⟨p'', ?_, h2⟩
  rw [List.take_succ_eq_append_getElem hi, run_app, h1, Option.bind_some] at h2
  unfold run at h2
  rw [List.foldlM_cons] at h2
  cases e : rdStep p' ws[i] with
  | none => rw [e] at h2; cases h2
  | some x => rw [e] at h2; exact h2
theorem run_len {ws : List Str} : ∀ {p q : List (List Int) × List Int}, p.2.length ≤ 3 → run ws p = some q → q.1.length ≤ p.1.length + ws.length ∧ q.2.length ≤ 3 := by
  induction ws with
  | nil => intro p q hp h; cases h; exact ⟨Nat.le_refl _, hp⟩
  | cons w ws ih =>
    intro p q hp h
    unfold run at h
    rw [List.foldlM_cons] at h
    cases e : rdStep p w with
    | none => rw [e] at h; cases h
    | some p' =>
      rw [e] at h
      unfold rdStep at e
      split at e
      · rename_i hc
        by_cases hw : w = "/"
        · rw [if_pos hw] at e
          cases e
          obtain ⟨h1, h2⟩ := ih (p := (p.1 ++ [p.2], [])) (q := q) (Nat.zero_le _) h
          simp at h1 h2 ⊢; omega
        · rw [if_neg hw] at e
          cases e
          have : p.2.length ≠ 3 := by
            intro z
            unfold canStand at hc
            rw [if_neg hw, if_pos (.inr z)] at hc
            cases hc
          obtain ⟨h1, h2⟩ := ih (p := (p.1, p.2 ++ [numOf w])) (q := q) (by simp; omega) h
          simp at h1 h2 ⊢; omega
      · cases e
theorem wds_snoc : ∀ (ss : List (List Int)) (s : List Int), wds (ss ++ [s]) = (wds ss ++ if ss = [] then [] else [("/" : Str)]) ++ s.map numW
  | [], s => by simp [wds]
  | [t], s => by simp [wds]
  | a :: b :: r, s => by
    have ih := wds_snoc (b :: r) s
    show a.map numW ++ ("/" : Str) :: wds ((b :: r) ++ [s]) = _
    rw [ih]
    simp [wds]
theorem wds_in {ss : List (List Int)} (h : ∀ s ∈ ss, StepOk s) : ∀ w ∈ wds ss, w = "/" ∨ ∃ i, Num6 i ∧ w = numW i := by
  induction ss with
  | nil => intro w hw; simp [wds] at hw
  | cons s ss ih =>
    have hs : ∀ w ∈ s.map numW, w = "/" ∨ ∃ i, Num6 i ∧ w = numW i := fun w hw => by
      obtain ⟨i, hi, rfl⟩ := List.mem_map.mp hw
      exact .inr ⟨i, num6_of (h s (by simp)) hi, rfl⟩
    cases ss with
    | nil => simpa [wds] using hs
    | cons t r =>
      intro w hw
      rw [wds] at hw
      rcases List.mem_append.mp hw with hw | hw
      · exact hs w hw
      · rcases List.mem_cons.mp hw with hw | hw
        · exact .inl hw
        · exact ih (fun x hx => h x (List.mem_cons_of_mem _ hx)) w hw
theorem word_facts {w : Str} (h : w = "/" ∨ ∃ i, Num6 i ∧ w = numW i) : 32 ∉ w.cps.toList ∧ w.length ≤ 2 ∧ PyData.strOk w = true ∧ w ≠ "-" := by
  rcases h with rfl | ⟨i, hi, rfl⟩
  · decide +kernel
  · obtain ⟨_, _, h3, _, h5, h6, h7⟩ := numW_in hi
    exact ⟨h5, h6, h7, h3⟩
theorem wds_ne {ss : List (List Int)} (h : ∀ s ∈ ss, StepOk s) (hn : ss ≠ []) : wds ss ≠ [] := by
  match ss, hn with
  | [s], _ =>
    have := (h s (by simp)).1
    intro z
    simp only [wds, List.map_eq_nil_iff] at z
    subst z; simp at this
  | s :: t :: r, _ => simp [wds]
theorem wordsD_facts {ss : List (List Int)} (h : ∀ s ∈ ss, StepOk s) : ∀ w ∈ wordsD ss, 32 ∉ w.cps.toList ∧ w.length ≤ 2 ∧ PyData.strOk w = true := by
  intro w hw
  unfold wordsD at hw
  split at hw
  · simp at hw; subst hw; decide +kernel
  · obtain ⟨a, b, c, _⟩ := word_facts (wds_in h w hw)
    exact ⟨a, b, c⟩
theorem split_words {ss : List (List Int)} (h : ∀ s ∈ ss, StepOk s) : Txt.split (Str.join " " (wordsD ss)) " " = wordsD ss := by
  rw [show Str.join " " (wordsD ss) = Txt.join " " (wordsD ss) from (StrLaws.glued_eq_join _ _).symm]
  refine TL.split_join (y := " ") (s := 32) (S := []) (by decide +kernel) (by decide +kernel) ?_ fun p hp => (wordsD_facts h p hp).1
  unfold wordsD
  split
  · simp
  · assumption
theorem str_ext {a b : Str} (h : a.cps.toList = b.cps.toList) : a = b := by
  cases a; cases b; simp at h; subst h; rfl
theorem str_app (a b : Str) : (a ++ b).cps.toList = a.cps.toList ++ b.cps.toList := TL.tl_append a b
theorem join_app (y : Str) : ∀ (a b : List Str), a ≠ [] → b ≠ [] → Str.join y (a ++ b) = Str.join y a ++ (y ++ Str.join y b)
  | [], _, h, _ => absurd rfl h
  | [x], b :: bs, _, _ => str_ext (by show (x ++ y ++ Str.join y (b :: bs)).cps.toList = (x ++ (y ++ Str.join y (b :: bs))).cps.toList; simp only [str_app, List.append_assoc])
  | x :: z :: r, b, _, hb => str_ext (by
    have ih := join_app y (z :: r) b (by simp) hb
    show (x ++ y ++ Str.join y ((z :: r) ++ b)).cps.toList = ((x ++ y ++ Str.join y (z :: r)) ++ (y ++ Str.join y b)).cps.toList
    rw [ih]; simp only [str_app, List.append_assoc])
  | _, [], _, h => absurd rfl h
theorem write_eq : ∀ (ss : List (List Int)), (∀ s ∈ ss, StepOk s) → ss ≠ [] → Str.join " / " (ss.map fun s => Str.join " " (s.map numW)) = Str.join " " (wds ss)
  | [], _, h => absurd rfl h
  | [s], _, _ => rfl
  | s :: t :: r, h, _ => by
    have ih := write_eq (t :: r) (fun x hx => h x (List.mem_cons_of_mem _ hx)) (by simp)
    have hs : s.map numW ≠ [] := by
      have := (h s (by simp)).1
      intro z
      simp only [List.map_eq_nil_iff] at z
      subst z; simp at this
    have hr := wds_ne (ss := t :: r) (fun x hx => h x (List.mem_cons_of_mem _ hx)) (by simp)
    rw [wds, join_app " " _ _ hs (by simp), show ("/" : Str) :: wds (t :: r) = [("/" : Str)] ++ wds (t :: r) from rfl, join_app " " [("/" : Str)] _ (by simp) hr, ← ih]
    refine str_ext ?_
    show (Str.join " " (s.map numW) ++ " / " ++ Str.join " / " ((t :: r).map fun s => Str.join " " (s.map numW))).cps.toList = (Str.join " " (s.map numW) ++ (" " ++ ("/" ++ (" " ++ Str.join " / " ((t :: r).map fun s => Str.join " " (s.map numW)))))).cps.toList
    simp only [str_app, List.append_assoc]
    congr 1
theorem len_app (a b : Str) : (a ++ b).length = a.length + b.length := Str.length_append a b
theorem wds_len : ∀ (ss : List (List Int)), (∀ s ∈ ss, StepOk s) → (wds ss).length ≤ 4 * ss.length
  | [], _ => by simp [wds]
  | [s], h => by
    have := (h s (by simp)).2.1
    simp [wds]; omega
  | s :: t :: r, h => by
    have ih := wds_len (t :: r) (fun x hx => h x (List.mem_cons_of_mem _ hx))
    have := (h s (by simp)).2.1
    simp [wds] at ih ⊢; omega
theorem sum_le {xs : List Str} {n : Nat} (h : ∀ x ∈ xs, x.length ≤ n) : (xs.map (·.length)).sum ≤ n * xs.length := by
  induction xs with
  | nil => simp
  | cons x xs ih =>
    have h1 := h x (by simp)
    have h2 := ih fun y hy => h y (List.mem_cons_of_mem _ hy)
    simp only [List.map_cons, List.sum_cons, List.length_cons, Nat.mul_succ]; omega
theorem any_str (xs : List Str) (w : Str) : (xs.map PyData.str).any (fun y => PyData.eqv y (.str w)) = decide (w ∈ xs) := by
  induction xs with
  | nil => rfl
  | cons y ys ih =>
    rw [List.map_cons, List.any_cons, ih]
    simp only [PyData.eqv]
    rw [beq_dec, ← Bool.decide_or]
    exact decide_eq_decide.mpr (by rw [List.mem_cons, eq_comm])
def wideOf (ss : List (List Int)) : Nat := ss.foldl (fun a s => a * s.length) 1
theorem wide_take {ss : List (List Int)} {i : Nat} (h : i < ss.length) : wideOf (ss.take (i + 1)) = wideOf (ss.take i) * ss[i].length := by
  unfold wideOf
  rw [List.take_succ_eq_append_getElem h, List.foldl_append]; rfl
theorem wide_pos {ss : List (List Int)} (h : ∀ s ∈ ss, StepOk s) : ∀ i, i ≤ ss.length → 1 ≤ wideOf (ss.take i) ∧ wideOf (ss.take i) ≤ 3 ^ i
  | 0, _ => by simp [wideOf]
  | i + 1, hi => by
    obtain ⟨h1, h2⟩ := wide_pos h i (by omega)
    rw [wide_take (by omega)]
    obtain ⟨h3, h4, _⟩ := h ss[i] (List.getElem_mem _)
    refine ⟨Nat.mul_pos h1 h3, ?_⟩
    rw [Nat.pow_succ]
    exact Nat.mul_le_mul h2 h4
theorem wide_le {ss : List (List Int)} (h : StepsOk ss) : 1 ≤ wideOf ss ∧ wideOf ss ≤ 27 := by
  have := wide_pos h.2 ss.length (Nat.le_refl _)
  rw [List.take_length] at this
  have h3 : 3 ^ ss.length ≤ 3 ^ 3 := Nat.pow_le_pow_right (by decide) h.1
  exact ⟨this.1, Nat.le_trans this.2 h3⟩
end CR

namespace CR
def sz (a w n : Nat) : Nat := (n - a + w - 1) / w
theorem lt_sz {a w n k : Nat} (hw : 0 < w) : k < sz a w n ↔ a + w * k < n := by
  unfold sz
  rw [Nat.lt_div_iff_mul_lt hw]
  rw [Nat.mul_comm w k]
  omega
def colI (a w n : Nat) : List Nat := (List.range (sz a w n)).map fun k => a + w * k
def turnI (m : Int) (l : List Nat) : List Nat := if 0 < m then l else l.reverse
def rdW (w : Nat) (s : List Int) (n : Nat) : List Nat := s.flatMap fun m => turnI m (colI (m.natAbs - 1) w n)
def rdN (s : List Int) (n : Nat) : List Nat := rdW s.length s n
def pickI {α : Type} (xs : List α) (is : List Nat) : List α := is.filterMap fun k => xs[k]?
theorem pickI_append {α : Type} (xs : List α) (is js : List Nat) : pickI xs (is ++ js) = pickI xs is ++ pickI xs js := List.filterMap_append ..
theorem pickI_rev {α : Type} (xs : List α) (is : List Nat) : pickI xs is.reverse = (pickI xs is).reverse := List.filterMap_reverse ..
theorem pickI_len {α : Type} {xs : List α} : ∀ {is : List Nat}, (∀ i ∈ is, i < xs.length) → (pickI xs is).length = is.length
  | [], _ => rfl
  | i :: is, h => by
    have ih := pickI_len (xs := xs) (is := is) fun j hj => h j (List.mem_cons_of_mem _ hj)
    unfold pickI at ih ⊢
    rw [List.filterMap_cons, List.getElem?_eq_getElem (h i (by simp))]
    simp [ih]
theorem pickI_get {α : Type} {xs : List α} : ∀ {is : List Nat} (p : Nat), (∀ i ∈ is, i < xs.length) → (pickI xs is)[p]? = is[p]?.bind fun i => xs[i]?
  | [], p, _ => by simp [pickI]
  | i :: is, 0, h => by
    unfold pickI
    rw [List.filterMap_cons, List.getElem?_eq_getElem (h i (by simp))]; simp
  | i :: is, p + 1, h => by
    have ih := pickI_get (xs := xs) (is := is) p fun j hj => h j (List.mem_cons_of_mem _ hj)
    unfold pickI at ih ⊢
    rw [List.filterMap_cons, List.getElem?_eq_getElem (h i (by simp))]
    simpa using ih
theorem colN_pick {α : Type} (a w : Nat) (xs : List α) : colN a w xs = pickI xs (colI a w xs.length) := by
  unfold colN pickI colI sz
  rw [List.filterMap_map]; rfl
theorem mem_colI {a w n m : Nat} (hw : 0 < w) (ha : a < w) : m ∈ colI a w n ↔ m < n ∧ m % w = a := by
  unfold colI
  simp only [List.mem_map, List.mem_range]
  constructor
  · rintro ⟨k, hk, rfl⟩
    refine ⟨(lt_sz hw).mp hk, ?_⟩
    rw [Nat.add_mul_mod_self_left, Nat.mod_eq_of_lt ha]
  · rintro ⟨h1, h2⟩
    refine ⟨m / w, (lt_sz hw).mpr ?_, ?_⟩
    · have := Nat.mod_add_div m w; omega
    · have := Nat.mod_add_div m w; omega
theorem colI_lt {a w n m : Nat} (hw : 0 < w) (h : m ∈ colI a w n) : m < n := by
  unfold colI at h
  simp only [List.mem_map, List.mem_range] at h
  obtain ⟨k, hk, rfl⟩ := h
  exact (lt_sz hw).mp hk
theorem colI_nodup {a w n : Nat} (hw : 0 < w) : (colI a w n).Nodup := by
  unfold colI
  refine List.Pairwise.map _ (fun a b hab => ?_) (List.nodup_range (n := sz _ w n))
  intro z
  exact hab (Nat.eq_of_mul_eq_mul_left hw (by omega))
theorem mem_turn {m : Int} {l : List Nat} {i : Nat} : i ∈ turnI m l ↔ i ∈ l := by unfold turnI; split <;> simp
theorem turn_nodup {m : Int} {l : List Nat} (h : l.Nodup) : (turnI m l).Nodup := by
  unfold turnI; split
  · exact h
  · exact (List.reverse_perm l).nodup_iff.mpr h
theorem turn_len {m : Int} {l : List Nat} : (turnI m l).length = l.length := by unfold turnI; split <;> simp
theorem rdW_lt {w : Nat} {s : List Int} {n i : Nat} (hw : 0 < w) (h : i ∈ rdW w s n) : i < n := by
  unfold rdW at h
  simp only [List.mem_flatMap] at h
  obtain ⟨m, _, h⟩ := h
  exact colI_lt hw (mem_turn.mp h)
def OrdOk (s : List Int) : Prop := 1 ≤ s.length ∧ (s.map Int.natAbs).Perm ((List.range s.length).map (· + 1))
theorem StepOk.ord {s : List Int} (h : StepOk s) : OrdOk s := ⟨h.1, h.2.2⟩
theorem ord_mem {s : List Int} (h : OrdOk s) {a : Nat} : (∃ m ∈ s, m.natAbs = a + 1) ↔ a < s.length := by
  have : a + 1 ∈ s.map Int.natAbs ↔ a + 1 ∈ (List.range s.length).map (· + 1) := h.2.mem_iff
  simpa using this
theorem ord_pos {s : List Int} (h : OrdOk s) {m : Int} (hm : m ∈ s) : 1 ≤ m.natAbs ∧ m.natAbs ≤ s.length := by
  have : m.natAbs ∈ (List.range s.length).map (· + 1) := h.2.mem_iff.mp (List.mem_map_of_mem hm)
  simp at this
  obtain ⟨j, hj, hj2⟩ := this
  omega
theorem mem_rdN {s : List Int} (h : OrdOk s) {n i : Nat} : i ∈ rdN s n ↔ i < n := by
  have hw : 0 < s.length := h.1
  constructor
  · exact rdW_lt hw
  · intro hi
    unfold rdN rdW
    rw [List.mem_flatMap]
    obtain ⟨m, hm, he⟩ := (ord_mem h (a := i % s.length)).mpr (Nat.mod_lt _ hw)
    refine ⟨m, hm, mem_turn.mpr ?_⟩
    rw [show m.natAbs - 1 = i % s.length by omega]
    exact (mem_colI hw (Nat.mod_lt _ hw)).mpr ⟨hi, rfl⟩
theorem nodup_rdW {w n : Nat} (hw : 0 < w) : ∀ {s : List Int}, (∀ m ∈ s, 1 ≤ m.natAbs ∧ m.natAbs ≤ w) → (s.map Int.natAbs).Nodup → (rdW w s n).Nodup
  | [], _, _ => .nil
  | m :: s, h, hn => by
    rw [List.map_cons, List.nodup_cons] at hn
    have ih := nodup_rdW (n := n) hw (s := s) (fun x hx => h x (List.mem_cons_of_mem _ hx)) hn.2
    show (turnI m (colI (m.natAbs - 1) w n) ++ rdW w s n).Nodup
    refine List.nodup_append.mpr ⟨turn_nodup (colI_nodup hw), ih, fun a ha b hb z => ?_⟩
    subst z
    have hm := h m (by simp)
    have h1 := (mem_colI hw (by omega)).mp (mem_turn.mp ha)
    unfold rdW at hb
    rw [List.mem_flatMap] at hb
    obtain ⟨m2, hm2, hb⟩ := hb
    have hm2' := h m2 (List.mem_cons_of_mem _ hm2)
    have h2 := (mem_colI hw (by omega)).mp (mem_turn.mp hb)
    exact hn.1 (List.mem_map.mpr ⟨m2, hm2, by omega⟩)
theorem nodup_rdN {s : List Int} (h : OrdOk s) (n : Nat) : (rdN s n).Nodup := by
  refine nodup_rdW h.1 (fun m hm => ord_pos h hm) (h.2.nodup_iff.mpr ?_)
  exact List.Pairwise.map _ (fun a b hab => by omega) (List.nodup_range (n := s.length))
theorem perm_rdN {s : List Int} (h : OrdOk s) (n : Nat) : (rdN s n).Perm (List.range n) :=
  (List.perm_ext_iff_of_nodup (nodup_rdN h n) List.nodup_range).mpr fun i => by rw [mem_rdN h, List.mem_range]
theorem len_rdN {s : List Int} (h : OrdOk s) (n : Nat) : (rdN s n).length = n := by rw [(perm_rdN h n).length_eq, List.length_range]
def rdIt {α : Type} (s : List Int) (xs : List α) : List α := pickI xs (rdN s xs.length)
theorem rdIt_len {α : Type} {s : List Int} (h : OrdOk s) (xs : List α) : (rdIt s xs).length = xs.length := by
  unfold rdIt
  rw [pickI_len fun i hi => (mem_rdN h).mp hi, len_rdN h]
def doneIt {α : Type} (ss : List (List Int)) (xs : List α) : List α := ss.foldl (fun it s => rdIt s it) xs
theorem doneIt_len {α : Type} : ∀ {ss : List (List Int)} (_ : ∀ s ∈ ss, OrdOk s) (xs : List α), (doneIt ss xs).length = xs.length
  | [], _, _ => rfl
  | s :: ss, h, xs => by
    show (doneIt ss (rdIt s xs)).length = _
    rw [doneIt_len (fun x hx => h x (List.mem_cons_of_mem _ hx)), rdIt_len (h s (by simp))]
def begB (w n : Nat) (pre : List Int) : Nat := (pre.map fun m => sz (m.natAbs - 1) w n).foldl (· + ·) 0
def plcIn (w n m : Nat) : List Int → Nat → Nat
  | [], b => b
  | x :: s, b => if x.natAbs - 1 = m % w then b + (if 0 < x then m / w else sz (x.natAbs - 1) w n - 1 - m / w) else plcIn w n m s (b + sz (x.natAbs - 1) w n)
def plcBy (s : List Int) (n m : Nat) : Nat := plcIn s.length n m s 0
def whcIn (w n : Nat) : List Int → Nat → Nat
  | [], p => p
  | x :: s, p => if p < sz (x.natAbs - 1) w n then (if 0 < x then p else sz (x.natAbs - 1) w n - 1 - p) * w + (x.natAbs - 1) else whcIn w n s (p - sz (x.natAbs - 1) w n)
def whcBy (s : List Int) (n p : Nat) : Nat := whcIn s.length n s p
theorem colI_len {a w n : Nat} : (colI a w n).length = sz a w n := by simp [colI]
theorem colI_get {a w n k : Nat} (hk : k < sz a w n) : (colI a w n)[k]? = some (a + w * k) := by
  unfold colI; simp [hk]
theorem turn_get {x : Int} {a w n k : Nat} (hk : k < sz a w n) : (turnI x (colI a w n))[k]? = some (a + w * (if 0 < x then k else sz a w n - 1 - k)) := by
  unfold turnI
  split
  · exact colI_get hk
  · rw [List.getElem?_reverse (by rw [colI_len]; exact hk), colI_len]
    exact colI_get (by omega)
theorem whcIn_get {w n : Nat} (hw : 0 < w) : ∀ {s : List Int} {p : Nat}, p < (rdW w s n).length → (rdW w s n)[p]? = some (whcIn w n s p)
  | [], p, h => by simp [rdW] at h
  | x :: s, p, h => by
    have e : rdW w (x :: s) n = turnI x (colI (x.natAbs - 1) w n) ++ rdW w s n := rfl
    have hl : (turnI x (colI (x.natAbs - 1) w n)).length = sz (x.natAbs - 1) w n := by rw [turn_len, colI_len]
    unfold whcIn
    by_cases hp : p < sz (x.natAbs - 1) w n
    · rw [if_pos hp, e, List.getElem?_append_left (by rw [hl]; exact hp), turn_get hp]
      congr 1
      rw [Nat.mul_comm w]; omega
    · rw [if_neg hp, e, List.getElem?_append_right (by rw [hl]; omega), hl]
      rw [e, List.length_append, hl] at h
      exact whcIn_get hw (by omega)
theorem whcBy_get {s : List Int} (h : OrdOk s) {n p : Nat} (hp : p < n) : (rdN s n)[p]? = some (whcBy s n p) := whcIn_get h.1 (by rw [show rdW s.length s n = rdN s n from rfl, len_rdN h]; exact hp)
theorem plcIn_get {w n m : Nat} (hw : 0 < w) (hm : m < n) : ∀ {s : List Int} {b : Nat}, (∃ x ∈ s, x.natAbs - 1 = m % w) → b ≤ plcIn w n m s b ∧ (rdW w s n)[plcIn w n m s b - b]? = some m
  | [], b, h => by obtain ⟨x, hx, _⟩ := h; simp at hx
  | x :: s, b, h => by
    have e : rdW w (x :: s) n = turnI x (colI (x.natAbs - 1) w n) ++ rdW w s n := rfl
    have hl : (turnI x (colI (x.natAbs - 1) w n)).length = sz (x.natAbs - 1) w n := by rw [turn_len, colI_len]
    unfold plcIn
    have hdm := Nat.mod_add_div m w
    by_cases hx : x.natAbs - 1 = m % w
    · rw [if_pos hx]
      have hk : m / w < sz (x.natAbs - 1) w n := (lt_sz hw).mpr (by omega)
      refine ⟨Nat.le_add_right _ _, ?_⟩
      rw [Nat.add_sub_cancel_left]
      have hk2 : (if 0 < x then m / w else sz (x.natAbs - 1) w n - 1 - m / w) < sz (x.natAbs - 1) w n := by
        generalize m / w = q at *
        split <;> omega
      rw [e, List.getElem?_append_left (by rw [hl]; exact hk2), turn_get hk2]
      congr 1
      rw [hx] at hk ⊢
      generalize m / w = q at *
      split
      · exact hdm
      · rw [show sz (m % w) w n - 1 - (sz (m % w) w n - 1 - q) = q by omega]; exact hdm
    · rw [if_neg hx]
      obtain ⟨h1, h2⟩ := plcIn_get (w := w) (n := n) (m := m) hw hm (s := s) (b := b + sz (x.natAbs - 1) w n) (by
        obtain ⟨y, hy, hy2⟩ := h
        rcases List.mem_cons.mp hy with rfl | hy
        · exact absurd hy2 hx
        · exact ⟨y, hy, hy2⟩)
      refine ⟨by omega, ?_⟩
      rw [e, List.getElem?_append_right (by rw [hl]; omega), hl]
      rw [show plcIn w n m s (b + sz (x.natAbs - 1) w n) - b - sz (x.natAbs - 1) w n = plcIn w n m s (b + sz (x.natAbs - 1) w n) - (b + sz (x.natAbs - 1) w n) by omega]
      exact h2
theorem plcBy_get {s : List Int} (h : OrdOk s) {n m : Nat} (hm : m < n) : (rdN s n)[plcBy s n m]? = some m := by
  obtain ⟨x, hx, he⟩ := (ord_mem h (a := m % s.length)).mpr (Nat.mod_lt _ h.1)
  exact (plcIn_get h.1 hm (s := s) (b := 0) ⟨x, hx, by omega⟩).2
theorem plcBy_lt {s : List Int} (h : OrdOk s) {n m : Nat} (hm : m < n) : plcBy s n m < n := by
  have := (List.getElem?_eq_some_iff.mp (plcBy_get h hm)).1
  rwa [len_rdN h] at this
theorem whcBy_lt {s : List Int} (h : OrdOk s) {n p : Nat} (hp : p < n) : whcBy s n p < n :=
  (mem_rdN h).mp (List.mem_of_getElem? (whcBy_get h hp))
theorem whc_plc {s : List Int} (h : OrdOk s) {n m : Nat} (hm : m < n) : whcBy s n (plcBy s n m) = m := by
  have h1 := whcBy_get h (plcBy_lt h hm)
  rw [plcBy_get h hm] at h1
  exact (Option.some.inj h1).symm
theorem nodup_idx {l : List Nat} (h : l.Nodup) {i j x : Nat} (hi : l[i]? = some x) (hj : l[j]? = some x) : i = j := by
  obtain ⟨h1, e1⟩ := List.getElem?_eq_some_iff.mp hi
  obtain ⟨h2, e2⟩ := List.getElem?_eq_some_iff.mp hj
  have hp := List.pairwise_iff_getElem.mp h
  rcases Nat.lt_trichotomy i j with z | z | z
  · exact absurd (e1.trans e2.symm) (hp i j h1 h2 z)
  · exact z
  · exact absurd (e2.trans e1.symm) (hp j i h2 h1 z)
theorem plc_whc {s : List Int} (h : OrdOk s) {n p : Nat} (hp : p < n) : plcBy s n (whcBy s n p) = p :=
  nodup_idx (nodup_rdN h n) (plcBy_get h (whcBy_lt h hp)) (whcBy_get h hp)
def plcS (ss : List (List Int)) (n m : Nat) : Nat := ss.foldl (fun i s => plcBy s n i) m
def whcS (ss : List (List Int)) (n p : Nat) : Nat := ss.foldr (fun s i => whcBy s n i) p
theorem plcS_lt {ss : List (List Int)} (h : ∀ s ∈ ss, OrdOk s) {n : Nat} : ∀ {m : Nat}, m < n → plcS ss n m < n := by
  induction ss with
  | nil => exact fun h => h
  | cons s ss ih => exact fun hm => ih (fun x hx => h x (List.mem_cons_of_mem _ hx)) (plcBy_lt (h s (by simp)) hm)
theorem whcS_lt {ss : List (List Int)} (h : ∀ s ∈ ss, OrdOk s) {n : Nat} : ∀ {m : Nat}, m < n → whcS ss n m < n := by
  induction ss with
  | nil => exact fun h => h
  | cons s ss ih => exact fun hm => whcBy_lt (h s (by simp)) (ih (fun x hx => h x (List.mem_cons_of_mem _ hx)) hm)
theorem whcS_plcS {ss : List (List Int)} (h : ∀ s ∈ ss, OrdOk s) {n : Nat} : ∀ {m : Nat}, m < n → whcS ss n (plcS ss n m) = m := by
  induction ss with
  | nil => exact fun _ => rfl
  | cons s ss ih =>
    intro m hm
    show whcBy s n (whcS ss n (plcS ss n (plcBy s n m))) = m
    rw [ih (fun x hx => h x (List.mem_cons_of_mem _ hx)) (plcBy_lt (h s (by simp)) hm), whc_plc (h s (by simp)) hm]
theorem plcS_whcS {ss : List (List Int)} (h : ∀ s ∈ ss, OrdOk s) {n : Nat} : ∀ {m : Nat}, m < n → plcS ss n (whcS ss n m) = m := by
  induction ss with
  | nil => exact fun _ => rfl
  | cons s ss ih =>
    intro m hm
    show plcS ss n (plcBy s n (whcBy s n (whcS ss n m))) = m
    rw [plc_whc (h s (by simp)) (whcS_lt (fun x hx => h x (List.mem_cons_of_mem _ hx)) hm), ih (fun x hx => h x (List.mem_cons_of_mem _ hx)) hm]
theorem rdIt_get {α : Type} {s : List Int} (h : OrdOk s) {xs : List α} {p : Nat} (hp : p < xs.length) : (rdIt s xs)[p]? = xs[whcBy s xs.length p]? := by
  unfold rdIt
  rw [pickI_get p fun i hi => (mem_rdN h).mp hi, whcBy_get h hp]; rfl
theorem doneIt_get {α : Type} : ∀ {ss : List (List Int)} (_ : ∀ s ∈ ss, OrdOk s) {xs : List α} {p : Nat}, p < xs.length → (doneIt ss xs)[p]? = xs[whcS ss xs.length p]?
  | [], _, xs, p, _ => rfl
  | s :: ss, h, xs, p, hp => by
    have hl := rdIt_len (h s (by simp)) xs
    show (doneIt ss (rdIt s xs))[p]? = _
    rw [doneIt_get (fun x hx => h x (List.mem_cons_of_mem _ hx)) (by rw [hl]; exact hp), hl]
    exact rdIt_get (h s (by simp)) (whcS_lt (fun x hx => h x (List.mem_cons_of_mem _ hx)) hp)
end CR

namespace CR
theorem sz_eq {a w n : Nat} (ha : a < w) : sz a w n = n / w + if a < n % w then 1 else 0 := by
  have hw : 0 < w := by omega
  have hn := Nat.mod_add_div n w
  have hr := Nat.mod_lt n hw
  unfold sz
  by_cases h : a < n % w
  · rw [if_pos h, show n - a + w - 1 = (n % w - a - 1) + w * (n / w + 1) by rw [Nat.mul_add, Nat.mul_one]; omega, Nat.add_mul_div_left _ _ hw, Nat.div_eq_of_lt (by omega), Nat.zero_add]
  · rw [if_neg h, Nat.add_zero]
    by_cases h2 : a ≤ n
    · rw [show n - a + w - 1 = (n % w + w - 1 - a) + w * (n / w) by omega, Nat.add_mul_div_left _ _ hw, Nat.div_eq_of_lt (by omega), Nat.zero_add]
    · rw [show n - a + w - 1 = w - 1 by omega, Nat.div_eq_of_lt (by omega), Nat.div_eq_of_lt (by omega)]
theorem sz_succ {t m k : Nat} (ht : t < m) : sz t m (k + 1) = sz t m k + (if k % m = t then 1 else 0) ∧ (k % m = t → t + m * sz t m k = k) := by
  have hm : 0 < m := by omega
  have key : ∀ j, j < sz t m (k + 1) ↔ (j < sz t m k ∨ t + m * j = k) := fun j => by rw [lt_sz hm, lt_sz hm]; omega
  have hk := Nat.mod_add_div k m
  by_cases h : k % m = t
  · rw [if_pos h]
    have e : sz t m k = k / m := by
      rw [sz_eq ht, if_neg (by omega), Nat.add_zero]
    refine ⟨?_, fun _ => by rw [e]; omega⟩
    have h1 : k / m < sz t m (k + 1) := (key _).mpr (.inr (by omega))
    have h2 : ¬ k / m + 1 < sz t m (k + 1) := fun z => by
      rcases (key _).mp z with z | z
      · omega
      · rw [Nat.mul_add, Nat.mul_one] at z; omega
    omega
  · rw [if_neg h, Nat.add_zero]
    refine ⟨?_, fun z => absurd z h⟩
    have ne : ∀ j, t + m * j ≠ k := fun j z => h (by rw [← z, Nat.add_mul_mod_self_left, Nat.mod_eq_of_lt ht])
    have h1 : ∀ j, j < sz t m (k + 1) ↔ j < sz t m k := fun j => (key j).trans ⟨fun z => z.resolve_right (ne j), .inl⟩
    have a1 := h1 (sz t m k)
    have a2 := h1 (sz t m (k + 1))
    omega
def cp {α : Type} : (Nat → Bool) → List α → List α
  | _, [] => []
  | p, x :: xs => if p 0 then x :: cp (fun j => p (j + 1)) xs else cp (fun j => p (j + 1)) xs
theorem cp_congr {α : Type} : ∀ {p q : Nat → Bool} (xs : List α), (∀ j, j < xs.length → p j = q j) → cp p xs = cp q xs
  | _, _, [], _ => rfl
  | p, q, x :: xs, h => by
    unfold cp
    rw [h 0 (by simp), cp_congr (p := fun j => p (j + 1)) (q := fun j => q (j + 1)) xs fun j hj => h (j + 1) (by simp; exact hj)]
theorem cp_app {α : Type} : ∀ (p : Nat → Bool) (xs ys : List α), cp p (xs ++ ys) = cp p xs ++ cp (fun j => p (j + xs.length)) ys
  | p, [], ys => rfl
  | p, x :: xs, ys => by
    show (if p 0 then x :: cp (fun j => p (j + 1)) (xs ++ ys) else cp (fun j => p (j + 1)) (xs ++ ys)) = (if p 0 then x :: cp (fun j => p (j + 1)) xs else cp (fun j => p (j + 1)) xs) ++ _
    rw [cp_app (fun j => p (j + 1)) xs ys, show (fun j => p (j + (x :: xs).length)) = fun j => p (j + xs.length + 1) from funext fun j => by rw [List.length_cons, Nat.add_assoc]]
    split <;> rfl
theorem cp_rev {α : Type} : ∀ (p : Nat → Bool) (xs : List α), cp p xs.reverse = (cp (fun i => p (xs.length - 1 - i)) xs).reverse
  | p, [] => rfl
  | p, x :: xs => by
    rw [List.reverse_cons, cp_app, cp_rev p xs, List.length_reverse]
    show _ ++ (if p (0 + xs.length) then [x] else []) = (if p ((x :: xs).length - 1 - 0) then x :: cp (fun j => p ((x :: xs).length - 1 - (j + 1))) xs else cp (fun j => p ((x :: xs).length - 1 - (j + 1))) xs).reverse
    rw [show (fun j => p ((x :: xs).length - 1 - (j + 1))) = fun i => p (xs.length - 1 - i) from funext fun j => by rw [List.length_cons]; congr 1; omega, show (x :: xs).length - 1 - 0 = 0 + xs.length by simp]
    split <;> simp
theorem cp_map {α β : Type} (f : α → β) : ∀ (p : Nat → Bool) (xs : List α), cp p (xs.map f) = (cp p xs).map f
  | _, [] => rfl
  | p, x :: xs => by
    show (if p 0 then f x :: cp _ (xs.map f) else cp _ (xs.map f)) = (if p 0 then x :: cp _ xs else cp _ xs).map f
    rw [cp_map f _ xs]
    split <;> rfl
def prog (a w k : Nat) : List Nat := (List.range k).map fun j => a + w * j
theorem colI_prog (a w n : Nat) : colI a w n = prog a w (sz a w n) := rfl
theorem prog_len {a w k : Nat} : (prog a w k).length = k := by simp [prog]
theorem prog_succ {a w k : Nat} : prog a w (k + 1) = prog a w k ++ [a + w * k] := by simp [prog, List.range_succ]
theorem cp_prog {a w t m : Nat} (ht : t < m) : ∀ k, cp (fun j => decide (j % m = t)) (prog a w k) = prog (a + w * t) (w * m) (sz t m k)
  | 0 => by rw [show sz t m 0 = 0 by rw [sz_eq ht]; simp]; rfl
  | k + 1 => by
    obtain ⟨h1, h2⟩ := sz_succ (k := k) ht
    rw [prog_succ, cp_app, cp_prog ht k, h1, prog_len]
    show _ ++ (if decide ((0 + k) % m = t) then [a + w * k] else []) = _
    rw [Nat.zero_add]
    by_cases h : k % m = t
    · rw [if_pos (by simpa using h), if_pos h, prog_succ]
      congr 2
      rw [Nat.mul_assoc, Nat.add_assoc, ← Nat.mul_add, h2 h]
    · rw [if_neg (by simpa using h), if_neg h]; simp
theorem sz_mul {a w t m n : Nat} (hw : 0 < w) (hm : 0 < m) : sz (a + w * t) (w * m) n = sz t m (sz a w n) := by
  have key : ∀ j, j < sz (a + w * t) (w * m) n ↔ j < sz t m (sz a w n) := fun j => by
    rw [lt_sz (Nat.mul_pos hw hm), lt_sz hm, lt_sz hw, Nat.mul_assoc, Nat.add_assoc, ← Nat.mul_add]
  have a1 := key (sz (a + w * t) (w * m) n)
  have a2 := key (sz t m (sz a w n))
  omega
theorem cp_col {a w t m n : Nat} (hw : 0 < w) (ht : t < m) : cp (fun j => decide (j % m = t)) (colI a w n) = colI (a + w * t) (w * m) n := by
  rw [colI_prog, cp_prog ht, colI_prog, sz_mul hw (by omega)]
theorem pick_range {n : Nat} : ∀ {l : List Nat}, (∀ i ∈ l, i < n) → pickI (List.range n) l = l
  | [], _ => rfl
  | x :: l, h => by
    have ih := pick_range (l := l) fun i hi => h i (List.mem_cons_of_mem _ hi)
    unfold pickI at ih ⊢
    rw [List.filterMap_cons, List.getElem?_range (h x (by simp))]
    simp [ih]
theorem list_range (l : List Nat) : l = (List.range l.length).map fun i => l.getD i 0 := by
  apply List.ext_getElem
  · simp
  · intro i h1 h2
    simp [h1]
theorem colN_cp {c m : Nat} (hc : c < m) (xs : List Nat) : colN c m xs = cp (fun j => decide (j % m = c)) xs := by
  have e : colN c m (List.range xs.length) = cp (fun j => decide (j % m = c)) (List.range xs.length) := by
    rw [colN_pick, List.length_range, pick_range fun i hi => colI_lt (by omega) hi]
    have := cp_prog (a := 0) (w := 1) hc xs.length
    rw [show prog 0 1 xs.length = List.range xs.length by simp [prog]] at this
    rw [this]
    simp [colI, sz, prog]
  rw [list_range xs, colN_map, cp_map, e]
theorem rdIt_flat {α : Type} (s : List Int) (xs : List α) : rdIt s xs = s.flatMap fun x => if 0 < x then colN (x.natAbs - 1) s.length xs else (colN (x.natAbs - 1) s.length xs).reverse := by
  unfold rdIt rdN rdW
  generalize s.length = w
  induction s with
  | nil => rfl
  | cons x s ih =>
    rw [List.flatMap_cons, List.flatMap_cons, pickI_append, ih, colN_pick]
    congr 1
    unfold turnI
    split
    · rfl
    · rw [pickI_rev]
abbrev Blk := Nat × Bool
def dirI (up : Bool) (l : List Nat) : List Nat := if up then l else l.reverse
def den (w n : Nat) (bs : List Blk) : List Nat := bs.flatMap fun b => dirI b.2 (colI b.1 w n)
def turnOf (up : Bool) (c b z m : Nat) : Nat := ((if up then (c : Int) - b else (b : Int) + z - 1 - c) % (m : Int)).toNat
def subs (w m n c : Nat) : List Blk → Nat → List Blk
  | [], _ => []
  | (a, up) :: bs, b => (a + w * turnOf up c b (sz a w n) m, up) :: subs w m n c bs (b + sz a w n)
theorem turn_lt {up : Bool} {c b z m : Nat} (hm : 0 < m) : turnOf up c b z m < m := by
  unfold turnOf
  have := Int.emod_lt_of_pos (if up then (c : Int) - b else (b : Int) + z - 1 - c) (show (0 : Int) < m by omega)
  have := Int.emod_nonneg (if up then (c : Int) - b else (b : Int) + z - 1 - c) (show (m : Int) ≠ 0 by omega)
  omega
theorem mod_c {m x c : Nat} (hc : c < m) : x % m = c ↔ (m : Int) ∣ (x : Int) - c := by
  have h : (x : Int) % m = (c : Int) % m ↔ (m : Int) ∣ (x : Int) - c := by
    rw [Int.emod_eq_emod_iff_emod_sub_eq_zero]
    exact ⟨Int.dvd_of_emod_eq_zero, Int.emod_eq_zero_of_dvd⟩
  rw [← h, Int.emod_eq_of_lt (a := (c : Int)) (by omega) (by omega), ← Int.natCast_emod]
  exact ⟨fun e => by rw [e], fun e => by omega⟩
theorem turn_dvd {up : Bool} {c b z m : Nat} (hm : 0 < m) : (m : Int) ∣ (if up then (c : Int) - b else (b : Int) + z - 1 - c) - (turnOf up c b z m : Int) := by
  unfold turnOf
  generalize (if up then (c : Int) - b else (b : Int) + z - 1 - c) = v
  have := Int.emod_nonneg v (show (m : Int) ≠ 0 by omega)
  rw [Int.toNat_of_nonneg this]
  exact Int.dvd_self_sub_emod
theorem turn_up {c b z m j : Nat} (hc : c < m) : (b + j) % m = c ↔ j % m = turnOf true c b z m := by
  have ht := turn_lt (up := true) (c := c) (b := b) (z := z) (m := m) (by omega)
  have hd := turn_dvd (up := true) (c := c) (b := b) (z := z) (m := m) (by omega)
  rw [mod_c hc, mod_c ht]
  simp only [if_true] at hd
  generalize (turnOf true c b z m) = t at *
  constructor
  · intro h
    have := Int.dvd_add h hd
    rwa [show ((b + j : Nat) : Int) - c + ((c : Int) - b - t) = (j : Int) - t by omega] at this
  · intro h
    have := Int.dvd_sub h hd
    rwa [show (j : Int) - t - ((c : Int) - b - t) = ((b + j : Nat) : Int) - c by omega] at this
theorem turn_dn {c b z m i : Nat} (hc : c < m) (hi : i < z) : (b + (z - 1 - i)) % m = c ↔ i % m = turnOf false c b z m := by
  have ht := turn_lt (up := false) (c := c) (b := b) (z := z) (m := m) (by omega)
  have hd := turn_dvd (up := false) (c := c) (b := b) (z := z) (m := m) (by omega)
  rw [mod_c hc, mod_c ht]
  simp only [Bool.false_eq_true, if_false] at hd
  generalize (turnOf false c b z m) = t at *
  constructor
  · intro h
    have := Int.dvd_sub hd h
    rwa [show (b : Int) + z - 1 - c - t - (((b + (z - 1 - i) : Nat) : Int) - c) = (i : Int) - t by omega] at this
  · intro h
    have := Int.dvd_sub hd h
    rwa [show (b : Int) + z - 1 - c - t - ((i : Int) - t) = ((b + (z - 1 - i) : Nat) : Int) - c by omega] at this
theorem dir_len {up : Bool} {l : List Nat} : (dirI up l).length = l.length := by unfold dirI; split <;> simp
theorem cp_dir {up : Bool} {a w n c b m : Nat} (hw : 0 < w) (hc : c < m) : cp (fun j => decide ((b + j) % m = c)) (dirI up (colI a w n)) = dirI up (colI (a + w * turnOf up c b (sz a w n) m) (w * m) n) := by
  have hm : 0 < m := by omega
  cases up with
  | true =>
    show cp _ (colI a w n) = colI _ (w * m) n
    rw [← cp_col hw (turn_lt hm)]
    exact cp_congr _ fun j _ => decide_eq_decide.mpr (turn_up hc)
  | false =>
    show cp _ (colI a w n).reverse = (colI _ (w * m) n).reverse
    rw [cp_rev, ← cp_col hw (turn_lt hm), colI_len]
    congr 1
    exact cp_congr _ fun j hj => decide_eq_decide.mpr (turn_dn hc (by rw [colI_len] at hj; exact hj))
theorem cp_den {w n c m : Nat} (hw : 0 < w) (hc : c < m) : ∀ (bs : List Blk) (b : Nat), cp (fun j => decide ((b + j) % m = c)) (den w n bs) = den (w * m) n (subs w m n c bs b)
  | [], _ => rfl
  | (a, up) :: bs, b => by
    have ih := cp_den (w := w) (n := n) hw hc bs (b + sz a w n)
    show cp _ (dirI up (colI a w n) ++ den w n bs) = dirI up (colI _ (w * m) n) ++ den (w * m) n (subs w m n c bs (b + sz a w n))
    rw [cp_app, cp_dir hw hc, ← ih, dir_len, colI_len]
    congr 1
    exact cp_congr _ fun j _ => by rw [show b + (j + sz a w n) = b + sz a w n + j by omega]
def flipB (b : Blk) : Blk := (b.1, !b.2)
def turnB (x : Int) (l : List Blk) : List Blk := if 0 < x then l else l.reverse.map flipB
theorem den_app {w n : Nat} (a b : List Blk) : den w n (a ++ b) = den w n a ++ den w n b := List.flatMap_append
theorem den_turn {w n : Nat} : ∀ l : List Blk, den w n (l.reverse.map flipB) = (den w n l).reverse
  | [] => rfl
  | (a, up) :: l => by
    rw [List.reverse_cons, List.map_append, den_app, den_turn l]
    show _ ++ (dirI (!up) (colI a w n) ++ []) = (dirI up (colI a w n) ++ den w n l).reverse
    rw [List.append_nil, List.reverse_append]
    congr 1
    cases up <;> simp [dirI]
def nextB (w : Nat) (s : List Int) (n : Nat) (bs : List Blk) : List Blk := s.flatMap fun x => turnB x (subs w s.length n (x.natAbs - 1) bs 0)
theorem den_next {w n : Nat} {s : List Int} (hw : 0 < w) (hs : OrdOk s) (bs : List Blk) : den (w * s.length) n (nextB w s n bs) = rdIt s (den w n bs) := by
  rw [rdIt_flat]
  unfold nextB
  have hm := hs.1
  have hx : ∀ x ∈ s, x.natAbs - 1 < s.length := fun x h => by have := ord_pos hs h; omega
  generalize hL : s.length = m at hx
  clear hL hm hs
  induction s with
  | nil => rfl
  | cons x s ih =>
    rw [List.flatMap_cons, List.flatMap_cons, den_app, ih fun y hy => hx y (List.mem_cons_of_mem _ hy)]
    congr 1
    have h1 := hx x (by simp)
    have h2 : den (w * m) n (subs w m n (x.natAbs - 1) bs 0) = colN (x.natAbs - 1) m (den w n bs) := by
      rw [colN_cp h1, ← cp_den hw h1]
      exact cp_congr _ fun j _ => by rw [Nat.zero_add]
    unfold turnB
    split
    · exact h2
    · rw [den_turn, h2]
theorem sz_add {a w r k : Nat} (hw : 0 < w) (ha : a < w) : sz a w (r + w * k) = sz a w r + k := by
  rw [sz_eq ha, sz_eq ha, Nat.add_mul_div_left _ _ hw, Nat.add_mul_mod_self_left]; omega
theorem turn_congr {up : Bool} {c b b' z z' m : Nat} (hb : (m : Int) ∣ (b : Int) - b') (hz : (m : Int) ∣ (z : Int) - z') : turnOf up c b z m = turnOf up c b' z' m := by
  unfold turnOf
  congr 1
  rw [Int.emod_eq_emod_iff_emod_sub_eq_zero]
  refine Int.emod_eq_zero_of_dvd ?_
  cases up with
  | true =>
    simp only [if_true]
    have := (Int.dvd_neg (a := (m : Int))).mpr hb
    rwa [show -((b : Int) - b') = (c : Int) - b - (c - b') by omega] at this
  | false =>
    simp only [Bool.false_eq_true, if_false]
    have := Int.dvd_add hb hz
    rwa [show (b : Int) - b' + ((z : Int) - z') = (b : Int) + z - 1 - c - (b' + z' - 1 - c) by omega] at this
theorem subs_congr {w m r k c : Nat} (hw : 0 < w) : ∀ (bs : List Blk) (b b' : Nat), (∀ x ∈ bs, x.1 < w) → (m : Int) ∣ (b : Int) - b' → subs w m (r + w * (m * k)) c bs b = subs w m r c bs b'
  | [], _, _, _, _ => rfl
  | (a, up) :: bs, b, b', h, hb => by
    have ha := h (a, up) (by simp)
    have hz := sz_add (r := r) (k := m * k) hw ha
    have hd : (m : Int) ∣ ((sz a w r + m * k : Nat) : Int) - (sz a w r : Nat) := ⟨k, by rw [Int.natCast_add, Int.natCast_mul]; omega⟩
    unfold subs
    rw [hz, turn_congr hb hd, subs_congr hw bs _ (b' + sz a w r) (fun x hx => h x (List.mem_cons_of_mem _ hx)) (by
      have := Int.dvd_add hb hd
      rwa [show (b : Int) - b' + (((sz a w r + m * k : Nat) : Int) - (sz a w r : Nat)) = ((b + (sz a w r + m * k) : Nat) : Int) - ((b' + sz a w r : Nat) : Int) by omega] at this)]
theorem next_congr {w r k : Nat} {s : List Int} (hw : 0 < w) {bs : List Blk} (h : ∀ x ∈ bs, x.1 < w) : nextB w s (r + w * (s.length * k)) bs = nextB w s r bs := by
  unfold nextB
  congr 1; funext x
  rw [subs_congr (b' := 0) hw bs 0 h ⟨0, by omega⟩]
theorem subs_lt {w m n c : Nat} (hw : 0 < w) (hm : 0 < m) : ∀ (bs : List Blk) (b : Nat), (∀ x ∈ bs, x.1 < w) → ∀ x ∈ subs w m n c bs b, x.1 < w * m
  | [], _, _, x, hx => by simp [subs] at hx
  | (a, up) :: bs, b, h, x, hx => by
    unfold subs at hx
    rcases List.mem_cons.mp hx with rfl | hx
    · have ha := h (a, up) (by simp)
      have ht := turn_lt (up := up) (c := c) (b := b) (z := sz a w n) hm
      show a + w * turnOf up c b (sz a w n) m < w * m
      generalize turnOf up c b (sz a w n) m = t at *
      have : w * (t + 1) ≤ w * m := Nat.mul_le_mul_left _ ht
      rw [Nat.mul_add, Nat.mul_one] at this
      simp only at ha
      omega
    · exact subs_lt hw hm bs _ (fun y hy => h y (List.mem_cons_of_mem _ hy)) x hx
theorem subs_len {w m n c : Nat} : ∀ (bs : List Blk) (b : Nat), (subs w m n c bs b).length = bs.length
  | [], _ => rfl
  | _ :: bs, b => by unfold subs; rw [List.length_cons, subs_len bs, List.length_cons]
theorem turnB_len {x : Int} {l : List Blk} : (turnB x l).length = l.length := by unfold turnB; split <;> simp
theorem turnB_fst {x : Int} {l : List Blk} {a : Nat} : (∃ b ∈ turnB x l, b.1 = a) ↔ ∃ b ∈ l, b.1 = a := by
  unfold turnB
  split
  · rfl
  · simp only [List.mem_map, List.mem_reverse]
    constructor
    · rintro ⟨b, ⟨y, hy, rfl⟩, rfl⟩; exact ⟨y, hy, rfl⟩
    · rintro ⟨y, hy, rfl⟩; exact ⟨flipB y, ⟨y, hy, rfl⟩, rfl⟩
theorem next_lt {w n : Nat} {s : List Int} (hw : 0 < w) (hm : 0 < s.length) {bs : List Blk} (h : ∀ x ∈ bs, x.1 < w) : ∀ x ∈ nextB w s n bs, x.1 < w * s.length := by
  intro x hx
  unfold nextB at hx
  rw [List.mem_flatMap] at hx
  obtain ⟨y, _, hx⟩ := hx
  obtain ⟨b, hb, e⟩ := turnB_fst.mp ⟨x, hx, rfl⟩
  rw [← e]
  exact subs_lt hw hm bs 0 h b hb
theorem flat_len {w m n : Nat} {bs : List Blk} : ∀ s : List Int, (s.flatMap fun x => turnB x (subs w m n (x.natAbs - 1) bs 0)).length = s.length * bs.length
  | [] => by simp
  | x :: s => by rw [List.flatMap_cons, List.length_append, flat_len s, turnB_len, subs_len, List.length_cons, Nat.succ_mul, Nat.add_comm]
theorem next_len {w n : Nat} {s : List Int} {bs : List Blk} : (nextB w s n bs).length = s.length * bs.length := flat_len s
def ordB (ss : List (List Int)) (n : Nat) : Nat × List Blk := ss.foldl (fun p s => (p.1 * s.length, nextB p.1 s n p.2)) (1, [(0, true)])
structure BOk (n : Nat) (ss : List (List Int)) (p : Nat × List Blk) : Prop where
  w : p.1 = wideOf ss
  pos : 0 < p.1
  len : p.2.length = p.1
  lt : ∀ x ∈ p.2, x.1 < p.1
  den : den p.1 n p.2 = doneIt ss (List.range n)
theorem wideOf_snoc (ss : List (List Int)) (s : List Int) : wideOf (ss ++ [s]) = wideOf ss * s.length := by unfold wideOf; rw [List.foldl_append]; rfl
theorem doneIt_snoc {α : Type} (ss : List (List Int)) (s : List Int) (xs : List α) : doneIt (ss ++ [s]) xs = rdIt s (doneIt ss xs) := by unfold doneIt; rw [List.foldl_append]; rfl
theorem ordB_snoc (ss : List (List Int)) (s : List Int) (n : Nat) : ordB (ss ++ [s]) n = ((ordB ss n).1 * s.length, nextB (ordB ss n).1 s n (ordB ss n).2) := by unfold ordB; rw [List.foldl_append]; rfl
theorem bok_nil (n : Nat) : BOk n [] (ordB [] n) := ⟨rfl, Nat.one_pos, rfl, fun x hx => by
  have : x = (0, true) := by simpa [ordB] using hx
  subst this; exact Nat.one_pos, by
  show dirI true (colI 0 1 n) ++ [] = List.range n
  simp [dirI, colI, sz]⟩
theorem bok_snoc {n : Nat} {ss : List (List Int)} {s : List Int} (h : BOk n ss (ordB ss n)) (hs : OrdOk s) : BOk n (ss ++ [s]) (ordB (ss ++ [s]) n) := by
  rw [ordB_snoc]
  refine ⟨by rw [wideOf_snoc, ← h.w], Nat.mul_pos h.pos hs.1, by dsimp only; rw [next_len, h.len, Nat.mul_comm], next_lt h.pos hs.1 h.lt, ?_⟩
  dsimp only
  rw [den_next h.pos hs, h.den, doneIt_snoc]
theorem bok {n : Nat} {ss : List (List Int)} (h : ∀ s ∈ ss, OrdOk s) : BOk n ss (ordB ss n) := by
  have key : ∀ k, k ≤ ss.length → BOk n (ss.take k) (ordB (ss.take k) n) := by
    intro k
    induction k with
    | zero => intro _; rw [List.take_zero]; exact bok_nil n
    | succ k ih =>
      intro hk
      rw [List.take_succ_eq_append_getElem hk]
      exact bok_snoc (ih (by omega)) (h _ (List.getElem_mem _))
  have := key ss.length (Nat.le_refl _)
  rwa [List.take_length] at this
theorem ordB_congr {ss : List (List Int)} (h : ∀ s ∈ ss, OrdOk s) (r q : Nat) : ordB ss (r + wideOf ss * q) = ordB ss r := by
  have key : ∀ k, k ≤ ss.length → ∀ q, ordB (ss.take k) (r + wideOf (ss.take k) * q) = ordB (ss.take k) r := by
    intro k
    induction k with
    | zero => intro _ q; rw [List.take_zero]; rfl
    | succ k ih =>
      intro hk q
      rw [List.take_succ_eq_append_getElem hk, wideOf_snoc, ordB_snoc, ordB_snoc, Nat.mul_assoc]
      have ih := ih (by omega) (ss[k].length * q)
      rw [ih]
      have hb := bok (n := r) (ss := ss.take k) fun s hs => h s (List.mem_of_mem_take hs)
      rw [← hb.w, next_congr hb.pos hb.lt]
  have := key ss.length (Nat.le_refl _) q
  rwa [List.take_length] at this
def blkI (b : Blk) : Int := ((b.1 : Int) + 1) * if b.2 then 1 else -1
def orderN (ss : List (List Int)) (r : Nat) : List Int := (ordB ss r).2.map blkI
theorem blkI_abs (b : Blk) : (blkI b).natAbs = b.1 + 1 := by obtain ⟨a, u⟩ := b; cases u <;> simp [blkI] <;> omega
theorem blkI_pos (b : Blk) : 0 < blkI b ↔ b.2 = true := by obtain ⟨a, u⟩ := b; cases u <;> simp [blkI] <;> omega
theorem orderN_len {ss : List (List Int)} (h : ∀ s ∈ ss, OrdOk s) (r : Nat) : (orderN ss r).length = wideOf ss := by
  have hb := bok (n := r) h
  unfold orderN; rw [List.length_map, hb.len, hb.w]
theorem den_rdW {w n : Nat} (bs : List Blk) : rdW w (bs.map blkI) n = den w n bs := by
  unfold rdW den
  rw [List.flatMap_map]
  congr 1; funext b
  show turnI (blkI b) (colI ((blkI b).natAbs - 1) w n) = dirI b.2 (colI b.1 w n)
  rw [blkI_abs, Nat.add_sub_cancel]
  unfold turnI dirI
  by_cases hb : b.2 = true
  · rw [if_pos ((blkI_pos b).mpr hb), if_pos hb]
  · rw [if_neg (fun z => hb ((blkI_pos b).mp z)), if_neg hb]
theorem orderN_reads {ss : List (List Int)} (h : ∀ s ∈ ss, OrdOk s) (n : Nat) : rdN (orderN ss (n % wideOf ss)) n = doneIt ss (List.range n) := by
  have e : ordB ss n = ordB ss (n % wideOf ss) := by
    have := ordB_congr h (n % wideOf ss) (n / wideOf ss)
    rwa [Nat.mod_add_div] at this
  have hb := bok (n := n) h
  have hl := orderN_len h (n % wideOf ss)
  unfold rdN
  rw [hl]
  unfold orderN
  rw [← e, den_rdW, ← hb.w, hb.den]
theorem den_parts {w n : Nat} (hn : w ≤ n) (hw : 0 < w) : ∀ {bs : List Blk}, (∀ x ∈ bs, x.1 < w) → (den w n bs).Nodup → (bs.map (·.1)).Nodup
  | [], _, _ => .nil
  | b :: bs, h, hd => by
    have hd : (dirI b.2 (colI b.1 w n) ++ den w n bs).Nodup := hd
    have h3 := List.nodup_append.mp hd
    have hb := h b (by simp)
    rw [List.map_cons, List.nodup_cons]
    refine ⟨fun z => ?_, den_parts hn hw (fun x hx => h x (List.mem_cons_of_mem _ hx)) h3.2.1⟩
    obtain ⟨c, hc, e⟩ := List.mem_map.mp z
    have m1 : b.1 ∈ dirI b.2 (colI b.1 w n) := by
      have : b.1 ∈ colI b.1 w n := (mem_colI hw hb).mpr ⟨by omega, Nat.mod_eq_of_lt hb⟩
      unfold dirI; split <;> simpa using this
    have m2 : b.1 ∈ den w n bs := by
      unfold den
      rw [List.mem_flatMap]
      refine ⟨c, hc, ?_⟩
      have : b.1 ∈ colI c.1 w n := by rw [e]; exact (mem_colI hw hb).mpr ⟨by omega, Nat.mod_eq_of_lt hb⟩
      unfold dirI; split <;> simpa using this
    exact h3.2.2 _ m1 _ m2 rfl
theorem perm_doneR {ss : List (List Int)} (h : ∀ s ∈ ss, OrdOk s) (n : Nat) : (doneIt ss (List.range n)).Perm (List.range n) := by
  have key : ∀ {ss : List (List Int)}, (∀ s ∈ ss, OrdOk s) → ∀ {xs : List Nat}, (doneIt ss xs).Perm xs := by
    intro ss
    induction ss with
    | nil => intro _ xs; exact .refl _
    | cons s ss ih =>
      intro h xs
      refine (ih (fun x hx => h x (List.mem_cons_of_mem _ hx))).trans ?_
      have hp := (perm_rdN (h s (by simp)) xs.length).filterMap fun k => xs[k]?
      rwa [range_all] at hp
  exact key h
theorem orderN_ok {ss : List (List Int)} (h : ∀ s ∈ ss, OrdOk s) (r : Nat) : OrdOk (orderN ss r) := by
  have hb := bok (n := r + wideOf ss * 1) h
  have e := ordB_congr h r 1
  have hl := orderN_len h r
  have hw : 0 < wideOf ss := by have := hb.pos; rwa [hb.w] at this
  refine ⟨by omega, ?_⟩
  rw [hl]
  have hnd : ((ordB ss r).2.map (·.1)).Nodup := by
    have h1 := hb.den
    rw [e] at h1
    have hb' := bok (n := r) h
    refine den_parts (n := r + wideOf ss * 1) (by rw [hb'.w]; omega) hb'.pos hb'.lt ?_
    rw [h1]
    exact (perm_doneR h _).nodup_iff.mpr List.nodup_range
  have hb' := bok (n := r) h
  have hperm : ((ordB ss r).2.map (·.1)).Perm (List.range (wideOf ss)) := by
    refine (List.perm_ext_iff_of_nodup hnd List.nodup_range).mpr fun a => ?_
    rw [List.mem_range]
    constructor
    · intro ha
      obtain ⟨b, hbm, rfl⟩ := List.mem_map.mp ha
      have := hb'.lt b hbm
      rwa [hb'.w] at this
    · intro ha
      have h1 := hb.den
      rw [e] at h1
      have h2 : a ∈ den (ordB ss r).1 (r + wideOf ss * 1) (ordB ss r).2 := by
        rw [h1]
        exact (perm_doneR h _).mem_iff.mpr (List.mem_range.mpr (by omega))
      unfold den at h2
      rw [List.mem_flatMap] at h2
      obtain ⟨b, hbm, h2⟩ := h2
      have h3 : a ∈ colI b.1 (ordB ss r).1 (r + wideOf ss * 1) := by
        unfold dirI at h2
        split at h2
        · exact h2
        · exact List.mem_reverse.mp h2
      have h4 := ((mem_colI hb'.pos (hb'.lt b hbm)).mp h3).2
      rw [hb'.w, Nat.mod_eq_of_lt ha] at h4
      exact List.mem_map.mpr ⟨b, hbm, h4.symm⟩
  unfold orderN
  rw [List.map_map, show (Int.natAbs ∘ blkI) = (· + 1) ∘ (fun b : Blk => b.1) from funext fun b => blkI_abs b, ← List.map_map]
  exact hperm.map _
end CR

namespace CR
theorem plcS_get {ss : List (List Int)} (h : ∀ s ∈ ss, OrdOk s) {n m : Nat} (hm : m < n) : (doneIt ss (List.range n))[plcS ss n m]? = some m := by
  have hl := plcS_lt h hm
  rw [doneIt_get h (by rw [List.length_range]; exact hl), List.length_range, whcS_plcS h hm, List.getElem?_range hm]
theorem nodup_doneR {ss : List (List Int)} (h : ∀ s ∈ ss, OrdOk s) (n : Nat) : (doneIt ss (List.range n)).Nodup := (perm_doneR h n).nodup_iff.mpr List.nodup_range
theorem plcS_order {ss : List (List Int)} (h : ∀ s ∈ ss, OrdOk s) {n m : Nat} (hm : m < n) : plcS ss n m = plcBy (orderN ss (n % wideOf ss)) n m := by
  have h1 := plcBy_get (orderN_ok h (n % wideOf ss)) hm
  rw [orderN_reads h n] at h1
  exact nodup_idx (nodup_doneR h n) (plcS_get h hm) h1
def inCol (a : Nat) (x : Int) : Bool := decide (x.natAbs - 1 = a)
theorem plcIn_next {w n m : Nat} (hw : 0 < w) (hm : m + w < n) : ∀ {s : List Int} {b : Nat} {x : Int} {r : List Int}, s.filter (inCol (m % w)) = x :: r → (0 < x → plcIn w n (m + w) s b = plcIn w n m s b + 1) ∧ (¬ 0 < x → plcIn w n (m + w) s b + 1 = plcIn w n m s b)
  | [], _, _, _, h => by simp at h
  | y :: s, b, x, r, h => by
    have e1 : (m + w) % w = m % w := Nat.add_mod_right m w
    have e2 : (m + w) / w = m / w + 1 := Nat.add_div_right m hw
    have hdm := Nat.mod_add_div m w
    unfold plcIn
    rw [e1, e2]
    by_cases hy : y.natAbs - 1 = m % w
    · rw [if_pos hy, if_pos hy]
      rw [List.filter_cons_of_pos (by simp [inCol, hy])] at h
      cases h
      have hk : m / w + 1 < sz (y.natAbs - 1) w n := (lt_sz hw).mpr (by rw [hy, Nat.mul_add]; omega)
      generalize m / w = q at *
      exact ⟨fun hx => by rw [if_pos hx, if_pos hx]; omega, fun hx => by rw [if_neg hx, if_neg hx]; omega⟩
    · rw [if_neg hy, if_neg hy]
      rw [List.filter_cons_of_neg (by simp [inCol, hy])] at h
      exact plcIn_next hw hm h
theorem filter_ord {s : List Int} (h : OrdOk s) {a : Nat} (ha : a < s.length) : ∃ x r, s.filter (inCol a) = x :: r := by
  obtain ⟨x, hx, he⟩ := (ord_mem h (a := a)).mpr ha
  have : x ∈ s.filter (inCol a) := List.mem_filter.mpr ⟨hx, by simp [inCol]; omega⟩
  cases e : s.filter (inCol a) with
  | nil => rw [e] at this; simp at this
  | cons y r => exact ⟨y, r, rfl⟩
theorem plcBy_next {s : List Int} (h : OrdOk s) {n m : Nat} (hm : m + s.length < n) {x : Int} {r : List Int} (hf : s.filter (inCol (m % s.length)) = x :: r) : (0 < x → plcBy s n (m + s.length) = plcBy s n m + 1) ∧ (¬ 0 < x → plcBy s n (m + s.length) + 1 = plcBy s n m) :=
  plcIn_next h.1 hm hf
theorem wideOf_pos {ss : List (List Int)} (h : ∀ s ∈ ss, OrdOk s) : 0 < wideOf ss := by
  have hb := bok (n := 0) h
  have := hb.pos
  rwa [hb.w] at this
end CR

namespace CR
open PySem PySem.Spec PyProof.Rows L2
mutual
def smB : PyData → Bool
  | .list xs => Nat.ble xs.length 5000 && smAll xs
  | .tuple xs => Nat.ble xs.length 5000 && smAll xs
  | .dict _ => false
  | .str s => PyData.strOk s
  | _ => true
def smAll : List PyData → Bool
  | [] => true
  | x :: xs => smB x && smAll xs
end
theorem smAll_get : ∀ {xs : List PyData} {i : Nat} {d : PyData}, smAll xs = true → xs[i]? = some d → smB d = true
  | [], _, _, _, h => by simp at h
  | x :: xs, 0, d, h, e => by
    simp at e; subst e
    rw [smAll, Bool.and_eq_true] at h; exact h.1
  | x :: xs, i + 1, d, h, e => by
    rw [smAll, Bool.and_eq_true] at h
    exact smAll_get h.2 (by simpa using e)
theorem smAll_of {xs : List PyData} (h : ∀ x ∈ xs, smB x = true) : smAll xs = true := by
  induction xs with
  | nil => rfl
  | cons x xs ih => rw [smAll, Bool.and_eq_true]; exact ⟨h x (by simp), ih fun y hy => h y (List.mem_cons_of_mem _ hy)⟩
theorem dep_get : ∀ {xs : List PyData} {i : Nat} {d : PyData}, xs[i]? = some d → d.depth ≤ PyData.depthAll xs
  | [], _, _, h => by simp at h
  | x :: xs, 0, d, e => by
    simp at e; subst e
    rw [PyData.depthAll]; exact Nat.le_max_left _ _
  | x :: xs, i + 1, d, e => by
    rw [PyData.depthAll]
    exact Nat.le_trans (dep_get (xs := xs) (i := i) (by simpa using e)) (Nat.le_max_right _ _)
mutual
theorem eqv_self : ∀ d : PyData, smB d = true → PyData.eqv d d = true
  | .none, _ => rfl
  | .bool b, _ => by simp [PyData.eqv]
  | .int b, _ => by simp [PyData.eqv]
  | .str b, _ => by simp [PyData.eqv]
  | .list xs, h => by
    rw [smB, Bool.and_eq_true] at h
    simp only [PyData.eqv]; exact eqv_selfAll xs h.2
  | .tuple xs, h => by
    rw [smB, Bool.and_eq_true] at h
    simp only [PyData.eqv]; exact eqv_selfAll xs h.2
  | .dict _, h => by rw [smB] at h; cases h
theorem eqv_selfAll : ∀ xs : List PyData, smAll xs = true → PyData.eqvAll xs xs = true
  | [], _ => rfl
  | x :: xs, h => by
    rw [smAll, Bool.and_eq_true] at h
    rw [PyData.eqvAll, eqv_self x h.1, eqv_selfAll xs h.2]; rfl
end
theorem sm_ints (ns : List Int) (h : ns.length ≤ 1000) : smB (.list (ns.map .int)) = true ∧ smB (.tuple (ns.map .int)) = true := by
  have h1 : smAll (ns.map PyData.int) = true := smAll_of fun x hx => by obtain ⟨i, _, rfl⟩ := List.mem_map.mp hx; rfl
  have h2 : Nat.ble (ns.map PyData.int).length 5000 = true := by rw [List.length_map]; exact Nat.ble_eq_true_of_le (Nat.le_trans h (by decide))
  constructor <;> (rw [smB, h1, h2]; rfl)
theorem dep_ints (ns : List Int) : (PyData.list (ns.map .int)).depth ≤ 1 ∧ (PyData.tuple (ns.map .int)).depth ≤ 1 := by
  have h := dep_all iC ns
  constructor <;> (simp only [PyData.depth]; exact Nat.succ_le_succ h)
end CR

namespace CR
open PySem PySem.Spec PyProof.Rows L2
theorem pickI_map {α β : Type} (f : α → β) (xs : List α) (is : List Nat) : pickI (xs.map f) is = (pickI xs is).map f := by
  unfold pickI
  rw [List.map_filterMap]
  congr 1; funext k
  rw [List.getElem?_map]
theorem rdIt_map {α β : Type} (f : α → β) (s : List Int) (xs : List α) : rdIt s (xs.map f) = (rdIt s xs).map f := by
  unfold rdIt; rw [List.length_map, pickI_map]
theorem doneIt_map {α β : Type} (f : α → β) : ∀ (ss : List (List Int)) (xs : List α), doneIt ss (xs.map f) = (doneIt ss xs).map f
  | [], _ => rfl
  | s :: ss, xs => by
    show doneIt ss (rdIt s (xs.map f)) = (doneIt ss (rdIt s xs)).map f
    rw [rdIt_map, doneIt_map f ss]
def setN {α : Type} (ns : List Nat) (xs ys : List α) (i : Nat) : List α := ((ns.zip xs).take i).foldl (fun acc p => acc.set p.1 p.2) ys
def backIt {α : Type} (ss : List (List Int)) (xs : List α) : List α := setN (doneIt ss (List.range xs.length)) xs xs xs.length
theorem setN_len {α : Type} {ns : List Nat} {xs ys : List α} {i : Nat} : (setN ns xs ys i).length = ys.length := by
  unfold setN
  generalize (ns.zip xs).take i = l
  induction l generalizing ys with
  | nil => rfl
  | cons p l ih => rw [List.foldl_cons, ih, List.length_set]
theorem setN_succ {α : Type} {ns : List Nat} {xs ys : List α} {i n : Nat} {x : α} (hn : ns[i]? = some n) (hx : xs[i]? = some x) : setN ns xs ys (i + 1) = (setN ns xs ys i).set n x := by
  have hz : (ns.zip xs)[i]? = some (n, x) := by rw [List.getElem?_zip_eq_some]; exact ⟨hn, hx⟩
  obtain ⟨hl, he⟩ := List.getElem?_eq_some_iff.mp hz
  unfold setN
  rw [List.take_succ_eq_append_getElem hl, List.foldl_append, he]; rfl
theorem setN_get {α : Type} {ns : List Nat} {xs ys : List α} (hd : ns.Nodup) (hl : ns.length = xs.length) (hlt : ∀ n ∈ ns, n < ys.length) : ∀ (i : Nat), i ≤ xs.length → ∀ (j n : Nat) (x : α), j < i → ns[j]? = some n → xs[j]? = some x → (setN ns xs ys i)[n]? = some x
  | 0, _, j, n, x, hj, _, _ => by omega
  | i + 1, hi, j, n, x, hj, hn, hx => by
    have hni : ns[i]? = some (ns[i]'(by omega)) := List.getElem?_eq_getElem (by omega)
    have hxi : xs[i]? = some (xs[i]'(by omega)) := List.getElem?_eq_getElem (by omega)
    rw [setN_succ hni hxi]
    by_cases e : j = i
    · subst e
      have e1 := Option.some.inj (hn.symm.trans hni)
      have e2 := Option.some.inj (hx.symm.trans hxi)
      have := hlt n (List.mem_of_getElem? hn)
      rw [← e1, ← e2, List.getElem?_set_self (by rw [setN_len]; exact this)]
    · have hne : ns[i]'(by omega) ≠ n := fun z => e (nodup_idx hd (by rw [hn, ← z]) hni)
      rw [List.getElem?_set_ne hne]
      exact setN_get hd hl hlt i (by omega) j n x (by omega) hn hx
theorem backIt_len {α : Type} {ss : List (List Int)} {xs : List α} : (backIt ss xs).length = xs.length := setN_len
theorem backIt_get {α : Type} {ss : List (List Int)} (h : ∀ s ∈ ss, OrdOk s) {xs : List α} {m : Nat} (hm : m < xs.length) : (backIt ss xs)[m]? = xs[plcS ss xs.length m]? := by
  have hlt := plcS_lt h hm
  have hp := perm_doneR h xs.length
  refine (setN_get (nodup_doneR h xs.length) (by rw [hp.length_eq, List.length_range]) (fun n hn => List.mem_range.mp (hp.mem_iff.mp hn)) xs.length (Nat.le_refl _) (plcS ss xs.length m) m (xs[plcS ss xs.length m]'hlt) hlt (plcS_get h hm) (List.getElem?_eq_getElem hlt)).trans (List.getElem?_eq_getElem hlt).symm
theorem done_back {α : Type} {ss : List (List Int)} (h : ∀ s ∈ ss, OrdOk s) (xs : List α) : doneIt ss (backIt ss xs) = xs := by
  apply List.ext_getElem?
  intro p
  by_cases hp : p < xs.length
  · rw [doneIt_get h (by rw [backIt_len]; exact hp), backIt_len, backIt_get h (whcS_lt h hp), plcS_whcS h hp]
  · rw [List.getElem?_eq_none (by rw [doneIt_len h, backIt_len]; omega), List.getElem?_eq_none (by omega)]
theorem back_done {α : Type} {ss : List (List Int)} (h : ∀ s ∈ ss, OrdOk s) (xs : List α) : backIt ss (doneIt ss xs) = xs := by
  apply List.ext_getElem?
  intro p
  by_cases hp : p < xs.length
  · rw [backIt_get h (by rw [doneIt_len h]; exact hp), doneIt_len h, doneIt_get h (plcS_lt h hp), whcS_plcS h hp]
  · rw [List.getElem?_eq_none (by rw [backIt_len, doneIt_len h]; omega), List.getElem?_eq_none (by omega)]
theorem setN_map {α β : Type} (f : α → β) (ns : List Nat) (xs ys : List α) (i : Nat) : setN ns (xs.map f) (ys.map f) i = (setN ns xs ys i).map f := by
  unfold setN
  rw [List.zip_map_right, ← List.map_take]
  generalize (ns.zip xs).take i = l
  induction l generalizing ys with
  | nil => rfl
  | cons p l ih => rw [List.map_cons, List.foldl_cons, List.foldl_cons, ← ih, List.map_set]; rfl
theorem backIt_map {α β : Type} (f : α → β) (ss : List (List Int)) (xs : List α) : backIt ss (xs.map f) = (backIt ss xs).map f := by
  unfold backIt; rw [List.length_map, setN_map]
def chunks {α : Type} (w : Nat) : Nat → List α → List (List α)
  | 0, _ => []
  | f + 1, xs => if xs = [] then [] else xs.take w :: chunks w f (xs.drop w)
def rowsOf {α : Type} (w : Nat) (xs : List α) : List (List α) := (List.range ((xs.length + w - 1) / w)).map fun k => (xs.drop (k * w)).take w
theorem rows_col {α : Type} {w a : Nat} (hw : 0 < w) (ha : a < w) (xs : List α) : (rowsOf w xs).filterMap (fun r => r[a]?) = colN a w xs := by
  unfold rowsOf colN
  rw [List.filterMap_map]
  have hle : (xs.length - a + w - 1) / w ≤ (xs.length + w - 1) / w := Nat.div_le_div_right (by omega)
  obtain ⟨e, he⟩ := Nat.exists_eq_add_of_le hle
  rw [he, List.range_add, List.filterMap_append]
  have h0 : (List.map (fun x => (xs.length - a + w - 1) / w + x) (List.range e)).filterMap ((fun r : List α => r[a]?) ∘ fun k => (xs.drop (k * w)).take w) = [] := by
    rw [List.filterMap_eq_nil_iff]
    intro k hk
    obtain ⟨j, _, rfl⟩ := List.mem_map.mp hk
    simp only [Function.comp]
    rw [List.getElem?_take_of_lt ha, List.getElem?_drop, List.getElem?_eq_none]
    have h1 : ¬ (xs.length - a + w - 1) / w + j < (xs.length - a + w - 1) / w := by omega
    have h2 : ¬ (xs.length - a + w - 1) / w + j < sz a w xs.length := h1
    rw [lt_sz hw, Nat.mul_comm] at h2
    omega
  rw [h0, List.append_nil]
  refine fm_congr fun k hk => ?_
  simp only [Function.comp]
  rw [List.getElem?_take_of_lt ha, List.getElem?_drop, Nat.mul_comm, Nat.add_comm]
theorem getFM {α : Type} {a : Nat} : ∀ rs : List (List α), rs.filterMap (fun r => r[a]?) = (rs.filter fun r => decide (a < r.length)).filterMap (fun r => r[a]?)
  | [] => rfl
  | r :: rs => by
    by_cases h : a < r.length
    · rw [List.filter_cons_of_pos (by simpa using h), List.filterMap_cons, List.filterMap_cons, getFM rs]
    · rw [List.filter_cons_of_neg (by simpa using h), List.filterMap_cons, List.getElem?_eq_none (by omega), getFM rs]
theorem range_fm {α β : Type} {xs : List α} {p : α → Bool} {f : α → β} {t : Nat → Bool} {g : Nat → β} (ht : ∀ i (h : i < xs.length), t i = p xs[i]) (hg : ∀ i (h : i < xs.length), g i = f xs[i]) : ((List.range xs.length).filter t).map g = (xs.filter p).map f := by
  induction xs generalizing t g with
  | nil => rfl
  | cons x xs ih =>
    have ih := ih (t := t ∘ Nat.succ) (g := g ∘ Nat.succ) (fun i h => ht (i + 1) (by simp; omega)) (fun i h => hg (i + 1) (by simp; omega))
    have h0 := ht 0 (by simp)
    have g0 := hg 0 (by simp)
    simp only [List.getElem_cons_zero] at h0 g0
    rw [List.length_cons, List.range_succ_eq_map, List.filter_cons, List.filter_cons, h0, List.filter_map]
    split
    · rw [List.map_cons, List.map_cons, g0, ← ih, List.map_map]
    · rw [← ih, List.map_map]
theorem rows_map {w a : Nat} (hw : 0 < w) (ha : a < w) (ns : List Int) : ((rowsOf w ns).filter fun r => decide (a < r.length)).map (fun r => r.getD a 0) = colN a w ns := by
  rw [← rows_col hw ha, getFM]
  generalize hR : (rowsOf w ns).filter (fun r => decide (a < r.length)) = rs
  have h : ∀ r ∈ rs, a < r.length := fun r hr => by
    rw [← hR] at hr
    exact of_decide_eq_true (List.mem_filter.mp hr).2
  clear hR
  induction rs with
  | nil => rfl
  | cons r rs ih =>
    have hr := h r (by simp)
    rw [List.map_cons, List.filterMap_cons, List.getElem?_eq_getElem hr, ih fun x hx => h x (List.mem_cons_of_mem _ hx), List.getD_eq_getElem?_getD, List.getElem?_eq_getElem hr]; rfl
theorem cut_take (xs : List PyData) (w : Nat) : cutD xs none (some (w : Int)) = xs.take w := by
  unfold cutD
  rw [HT.sIx_none, HT.sIx_nat, List.drop_zero, Nat.sub_zero]
  rcases Nat.le_total w xs.length with h | h
  · rw [Nat.min_eq_left h]
  · rw [Nat.min_eq_right h, List.take_length, List.take_of_length_le h]
theorem cut_drop (xs : List PyData) (w : Nat) : cutD xs (some (w : Int)) none = xs.drop w := by
  unfold cutD
  rw [HT.sIx_none, HT.sIx_nat]
  rcases Nat.le_total w xs.length with h | h
  · rw [Nat.min_eq_left h, List.take_of_length_le (by rw [List.length_drop]; exact Nat.le_refl _)]
  · rw [Nat.min_eq_right h, List.drop_length, List.take_nil, List.drop_eq_nil_of_le h]
theorem rows_end {w k n : Nat} (hw : 0 < w) (h1 : n ≤ k * w) (h2 : k = 0 ∨ (k - 1) * w < n) : (n + w - 1) / w = k := by
  rcases h2 with rfl | h2
  · have : n = 0 := by omega
    subst this
    exact Nat.div_eq_of_lt (by omega)
  · cases k with
    | zero =>
      have : n = 0 := by omega
      subst this
      exact Nat.div_eq_of_lt (by omega)
    | succ k =>
      rw [Nat.add_sub_cancel] at h2
      rw [Nat.succ_mul] at h1
      rw [show n + w - 1 = (n - 1 - k * w) + w * (k + 1) by rw [Nat.mul_add, Nat.mul_one, Nat.mul_comm w k]; omega, Nat.add_mul_div_left _ _ hw, Nat.div_eq_of_lt (by omega), Nat.zero_add]
theorem getD_at {α : Type} {xs : List α} {j : Nat} {d : α} (h : j < xs.length) : xs.getD j d = xs[j] := by
  rw [List.getD_eq_getElem?_getD, List.getElem?_eq_getElem h]; rfl
def TOP : Nat := 1000000000000000000000000000000
theorem StepsOk.ords {ss : List (List Int)} (h : StepsOk ss) : ∀ s ∈ ss, OrdOk s := fun s hs => (h.2 s hs).ord
end CR

namespace CR
open PySem PySem.Spec PyProof.Rows L2
def natI (n : Nat) : PyData := .int n
def nC : Cdc Nat where
  d := natI
  lay _ := rfl
  n := 0
  dep _ := Nat.le_refl _
  eqv a b := by
    show PyData.eqv (.int (a : Int)) (.int (b : Int)) = _
    simp only [PyData.eqv]
    rw [beq_dec]
    exact decide_eq_decide.mpr Int.natCast_inj
theorem turn_two {x : Int} {w n : Nat} (hw : 0 < w) (hx : x.natAbs - 1 < w) (hn : 2 * w ≤ n) : ∃ k, 2 ≤ k ∧ k = sz (x.natAbs - 1) w n ∧ (turnI x (colI (x.natAbs - 1) w n))[0]? = some (x.natAbs - 1 + w * (if 0 < x then 0 else k - 1)) ∧ (turnI x (colI (x.natAbs - 1) w n))[1]? = some (x.natAbs - 1 + w * (if 0 < x then 1 else k - 2)) := by
  have h2 : 1 < sz (x.natAbs - 1) w n := (lt_sz hw).mpr (by omega)
  refine ⟨_, h2, rfl, ?_, ?_⟩
  · rw [turn_get (by omega)]
    congr 3
  · rw [turn_get h2]
    congr 3
theorem rdW_head {x : Int} {s : List Int} {w n : Nat} (hw : 0 < w) (hx : x.natAbs - 1 < w) (hn : 2 * w ≤ n) : ∃ p q, (rdW w (x :: s) n)[0]? = some p ∧ (rdW w (x :: s) n)[1]? = some q ∧ p % w = x.natAbs - 1 ∧ (0 < x → q = p + w) ∧ (¬ 0 < x → p = q + w) := by
  obtain ⟨k, hk, ek, h0, h1⟩ := turn_two hw hx hn
  have e : rdW w (x :: s) n = turnI x (colI (x.natAbs - 1) w n) ++ rdW w s n := rfl
  have hl : (turnI x (colI (x.natAbs - 1) w n)).length = k := by rw [turn_len, colI_len, ek]
  refine ⟨_, _, by rw [e, List.getElem?_append_left (by omega)]; exact h0, by rw [e, List.getElem?_append_left (by omega)]; exact h1, by rw [Nat.add_mul_mod_self_left, Nat.mod_eq_of_lt hx], fun hp => ?_, fun hp => ?_⟩
  · rw [if_pos hp, if_pos hp]; omega
  · rw [if_neg hp, if_neg hp]
    obtain ⟨j, rfl⟩ : ∃ j, k = j + 2 := ⟨k - 2, by omega⟩
    rw [show j + 2 - 1 = j + 1 by omega, show j + 2 - 2 = j by omega, Nat.mul_add]; omega
theorem rdW_inj {w n : Nat} (hw : 0 < w) (hn : 2 * w ≤ n) : ∀ {s t : List Int}, (∀ x ∈ s, 1 ≤ x.natAbs ∧ x.natAbs ≤ w) → (∀ x ∈ t, 1 ≤ x.natAbs ∧ x.natAbs ≤ w) → rdW w s n = rdW w t n → s = t
  | [], [], _, _, _ => rfl
  | [], y :: t, _, ht, e => by
    have hy := ht y (by simp)
    obtain ⟨p, q, h0, _⟩ := rdW_head (s := t) hw (show y.natAbs - 1 < w by omega) hn
    rw [← e] at h0
    simp [rdW] at h0
  | x :: s, [], hs, _, e => by
    have hx := hs x (by simp)
    obtain ⟨p, q, h0, _⟩ := rdW_head (s := s) hw (show x.natAbs - 1 < w by omega) hn
    rw [e] at h0
    simp [rdW] at h0
  | x :: s, y :: t, hs, ht, e => by
    have hx := hs x (by simp)
    have hy := ht y (by simp)
    obtain ⟨p, q, h0, h1, h2, h3, h4⟩ := rdW_head (s := s) hw (show x.natAbs - 1 < w by omega) hn
    obtain ⟨p', q', g0, g1, g2, g3, g4⟩ := rdW_head (s := t) hw (show y.natAbs - 1 < w by omega) hn
    rw [e, g0] at h0
    rw [e, g1] at h1
    cases h0; cases h1
    have hxy : x = y := by
      by_cases h : 0 < x
      · have := h3 h
        by_cases h' : 0 < y
        · omega
        · have := g4 h'; omega
      · have := h4 h
        by_cases h' : 0 < y
        · have := g3 h'; omega
        · omega
    subst hxy
    have e2 : turnI x (colI (x.natAbs - 1) w n) ++ rdW w s n = turnI x (colI (x.natAbs - 1) w n) ++ rdW w t n := e
    rw [rdW_inj hw hn (fun z hz => hs z (List.mem_cons_of_mem _ hz)) (fun z hz => ht z (List.mem_cons_of_mem _ hz)) (List.append_cancel_left e2)]
theorem rdN_wide {s t : List Int} (hs : OrdOk s) (ht : OrdOk t) {n : Nat} (h1 : 2 * s.length ≤ n) (h2 : 2 * t.length ≤ n) (e : rdN s n = rdN t n) : s.length = t.length := by
  have w1 := hs.1
  have w2 := ht.1
  obtain ⟨x, s', rfl⟩ := List.exists_cons_of_length_pos w1
  obtain ⟨y, t', rfl⟩ := List.exists_cons_of_length_pos w2
  have hx := ord_pos hs (m := x) (by simp)
  have hy := ord_pos ht (m := y) (by simp)
  obtain ⟨p, q, a0, a1, a2, a3, a4⟩ := rdW_head (x := x) (s := s') (w := (x :: s').length) w1 (by omega) h1
  obtain ⟨p', q', b0, b1, b2, b3, b4⟩ := rdW_head (x := y) (s := t') (w := (y :: t').length) w2 (by omega) h2
  have e0 : (rdN (x :: s') n)[0]? = (rdN (y :: t') n)[0]? := by rw [e]
  have e1 : (rdN (x :: s') n)[1]? = (rdN (y :: t') n)[1]? := by rw [e]
  unfold rdN at e0 e1
  rw [a0, b0] at e0
  rw [a1, b1] at e1
  cases e0; cases e1
  by_cases h : 0 < x
  · have := a3 h
    by_cases h' : 0 < y
    · have := b3 h'; omega
    · have := b4 h'; omega
  · have := a4 h
    by_cases h' : 0 < y
    · have := b3 h'; omega
    · have := b4 h'; omega
theorem rdN_inj {s t : List Int} (hs : OrdOk s) (ht : OrdOk t) {n : Nat} (h1 : 2 * s.length ≤ n) (h2 : 2 * t.length ≤ n) (e : rdN s n = rdN t n) : s = t := by
  have hw := rdN_wide hs ht h1 h2 e
  unfold rdN at e
  rw [← hw] at e
  exact rdW_inj hs.1 h1 (fun x hx => ord_pos hs hx) (fun x hx => by rw [hw]; exact ord_pos ht hx) e
theorem rdIt_range (s : List Int) (h : OrdOk s) (n : Nat) : rdIt s (List.range n) = rdN s n := by
  unfold rdIt
  rw [List.length_range]
  exact pick_range fun i hi => (mem_rdN h).mp hi
theorem ord_nodup {s : List Int} (h : OrdOk s) : (s.map Int.natAbs).Nodup :=
  h.2.nodup_iff.mpr (List.Pairwise.map _ (fun a b hab => by omega) (List.nodup_range (n := s.length)))
theorem ord_neg {s : List Int} (h : OrdOk s) {i : Nat} (hi : i < s.length) : OrdOk (s.set i (-s[i])) ∧ s.set i (-s[i]) ≠ s := by
  have e : (s.set i (-s[i])).map Int.natAbs = s.map Int.natAbs := by
    rw [List.map_set, Int.natAbs_neg]
    apply List.ext_getElem
    · simp
    · intro j h1 h2
      rw [List.getElem_set]
      split
      · rename_i h; subst h; simp
      · rfl
  refine ⟨⟨by rw [List.length_set]; exact h.1, by rw [e, List.length_set]; exact h.2⟩, fun z => ?_⟩
  have h1 : (s.set i (-s[i]))[i]? = some (-s[i]) := List.getElem?_set_self hi
  rw [z, List.getElem?_eq_getElem hi] at h1
  have := (ord_pos h (List.getElem_mem hi)).1
  have := Option.some.inj h1
  omega
theorem swap_perm {α : Type} {s : List α} {i j : Nat} (hi : i < s.length) (hj : j < s.length) : ((s.set i s[j]).set j s[i]).Perm s := by
  have := List.set_set_perm hi hj
  exact this
theorem ord_swap {s : List Int} (h : OrdOk s) {i j : Nat} (hi : i < s.length) (hj : j < s.length) (hij : i ≠ j) : OrdOk ((s.set i s[j]).set j s[i]) ∧ (s.set i s[j]).set j s[i] ≠ s := by
  have hp := swap_perm hi hj
  refine ⟨⟨by simp; exact h.1, ?_⟩, fun z => ?_⟩
  · rw [List.length_set, List.length_set]
    exact (hp.map _).trans h.2
  · have h1 : ((s.set i s[j]).set j s[i])[i]? = some s[j] := by rw [List.getElem?_set_ne (fun e => hij e.symm), List.getElem?_set_self hi]
    rw [z, List.getElem?_eq_getElem hi] at h1
    have e := Option.some.inj h1
    have hn := ord_nodup h
    have hp := List.pairwise_iff_getElem.mp hn
    rcases Nat.lt_or_ge i j with q | q
    · have := hp i j (by simpa using hi) (by simpa using hj) q
      simp only [List.getElem_map] at this
      exact this (by rw [e])
    · have := hp j i (by simpa using hj) (by simpa using hi) (by omega)
      simp only [List.getElem_map] at this
      exact this (by rw [e])
end CR

namespace CR
open PySem PySem.Spec PyProof.Rows L2
def ordsN (ss : List (List Int)) : List (List Int) := (List.range (wideOf ss)).map (orderN ss)
theorem ordsN_len {ss : List (List Int)} : (ordsN ss).length = wideOf ss := by simp [ordsN]
theorem ordsN_get {ss : List (List Int)} {r : Nat} (h : r < wideOf ss) : (ordsN ss)[r]? = some (orderN ss r) := by simp [ordsN, h]
abbrev sameAt (s1 s2 : List (List Int)) (n : Nat) : Prop := doneIt s1 (List.range n) = doneIt s2 (List.range n)
theorem same_of_ords {s1 s2 : List (List Int)} (h1 : ∀ s ∈ s1, OrdOk s) (h2 : ∀ s ∈ s2, OrdOk s) (e : ordsN s1 = ordsN s2) (n : Nat) : sameAt s1 s2 n := by
  have hw : wideOf s1 = wideOf s2 := by rw [← ordsN_len, ← ordsN_len, e]
  have hp := wideOf_pos h1
  have g1 := ordsN_get (ss := s1) (Nat.mod_lt n hp)
  have g2 := ordsN_get (ss := s2) (r := n % wideOf s1) (by rw [← hw]; exact Nat.mod_lt n hp)
  rw [e, g2] at g1
  have ho := Option.some.inj g1
  unfold sameAt
  rw [← orderN_reads h1 n, ← orderN_reads h2 n, ← hw, ho]
theorem wide_of_same {s1 s2 : List (List Int)} (h1 : ∀ s ∈ s1, OrdOk s) (h2 : ∀ s ∈ s2, OrdOk s) {n : Nat} (g1 : 2 * wideOf s1 ≤ n) (g2 : 2 * wideOf s2 ≤ n) (e : sameAt s1 s2 n) : wideOf s1 = wideOf s2 ∧ orderN s1 (n % wideOf s1) = orderN s2 (n % wideOf s2) := by
  unfold sameAt at e
  rw [← orderN_reads h1 n, ← orderN_reads h2 n] at e
  have l1 := orderN_len h1 (n % wideOf s1)
  have l2 := orderN_len h2 (n % wideOf s2)
  have := rdN_inj (orderN_ok h1 _) (orderN_ok h2 _) (by rw [l1]; exact g1) (by rw [l2]; exact g2) e
  exact ⟨by rw [← l1, ← l2, this], this⟩
theorem part_bound {s1 s2 : List (List Int)} (h1 : ∀ s ∈ s1, OrdOk s) (h2 : ∀ s ∈ s2, OrdOk s) (e : ordsN s1 ≠ ordsN s2) : ∃ n, n < 3 * max (wideOf s1) (wideOf s2) ∧ ¬ sameAt s1 s2 n := by
  have p1 := wideOf_pos h1
  have p2 := wideOf_pos h2
  by_cases hw : wideOf s1 = wideOf s2
  · have : ∃ r, r < wideOf s1 ∧ orderN s1 r ≠ orderN s2 r := by
      refine Classical.byContradiction fun hn => e ?_
      apply List.ext_getElem?
      intro r
      by_cases hr : r < wideOf s1
      · rw [ordsN_get hr, ordsN_get (by rw [← hw]; exact hr)]
        refine congrArg some (Classical.byContradiction fun z => hn ⟨r, hr, z⟩)
      · rw [List.getElem?_eq_none (by rw [ordsN_len]; omega), List.getElem?_eq_none (by rw [ordsN_len]; omega)]
    obtain ⟨r, hr, hne⟩ := this
    refine ⟨r + wideOf s1 * 2, by omega, fun z => hne ?_⟩
    have h := (wide_of_same h1 h2 (by omega) (by omega) z).2
    rw [← hw, Nat.add_mul_mod_self_left, Nat.mod_eq_of_lt hr] at h
    exact h
  · refine ⟨2 * max (wideOf s1) (wideOf s2), by omega, fun z => hw (wide_of_same h1 h2 (by omega) (by omega) z).1⟩
theorem least_of {p : Nat → Prop} : ∀ {n : Nat}, p n → ∃ m, m ≤ n ∧ p m ∧ ∀ j, j < m → ¬ p j
  | 0, h => ⟨0, Nat.le_refl _, h, fun j hj => by omega⟩
  | n + 1, h => by
    by_cases h' : ∃ j, j ≤ n ∧ p j
    · obtain ⟨j, hj, pj⟩ := h'
      have : ∀ k, k ≤ n → p k → ∃ m, m ≤ n ∧ p m ∧ ∀ j, j < m → ¬ p j := by
        intro k
        induction k using Nat.strongRecOn with
        | ind k ih =>
          intro hk pk
          by_cases hq : ∃ j, j < k ∧ p j
          · obtain ⟨j, hj, pj⟩ := hq
            exact ih j hj (by omega) pj
          · exact ⟨k, hk, pk, fun j hj pj => hq ⟨j, hj, pj⟩⟩
      obtain ⟨m, h1, h2, h3⟩ := this j hj pj
      exact ⟨m, by omega, h2, h3⟩
    · exact ⟨n + 1, Nat.le_refl _, h, fun j hj pj => h' ⟨j, by omega, pj⟩⟩
theorem same_of_places {s1 s2 : List (List Int)} (h1 : ∀ s ∈ s1, OrdOk s) (h2 : ∀ s ∈ s2, OrdOk s) {n : Nat} (e : ∀ i, i < n → plcS s1 n i = plcS s2 n i) : sameAt s1 s2 n := by
  apply List.ext_getElem?
  intro p
  by_cases hp : p < n
  · have hl : p < (List.range n).length := by rw [List.length_range]; exact hp
    rw [doneIt_get h1 hl, doneIt_get h2 hl, List.length_range]
    have hi := whcS_lt h1 hp
    have h3 := e _ hi
    rw [plcS_whcS h1 hp] at h3
    have h4 := whcS_plcS h2 hi
    rw [← h3] at h4
    rw [h4]
  · rw [List.getElem?_eq_none (by rw [doneIt_len h1, List.length_range]; omega), List.getElem?_eq_none (by rw [doneIt_len h2, List.length_range]; omega)]
structure LPart (s1 s2 : List (List Int)) (n i : Nat) : Prop where
  part : ¬ sameAt s1 s2 n
  least : ∀ m, m < n → sameAt s1 s2 m
  lt : i < n
  sign : plcS s1 n i ≠ plcS s2 n i
  leastI : ∀ j, j < i → plcS s1 n j = plcS s2 n j
theorem LPart.uniq {s1 s2 : List (List Int)} {n i n' i' : Nat} (h : LPart s1 s2 n i) (h' : LPart s1 s2 n' i') : n = n' ∧ i = i' := by
  have e : n = n' := by
    rcases Nat.lt_trichotomy n n' with z | z | z
    · exact absurd (h'.least n z) h.part
    · exact z
    · exact absurd (h.least n' z) h'.part
  subst e
  refine ⟨rfl, ?_⟩
  rcases Nat.lt_trichotomy i i' with z | z | z
  · exact absurd (h'.leastI i z) h.sign
  · exact z
  · exact absurd (h.leastI i' z) h'.sign
theorem LPart.symm {s1 s2 : List (List Int)} {n i : Nat} (h : LPart s1 s2 n i) : LPart s2 s1 n i :=
  ⟨fun z => h.part z.symm, fun m hm => (h.least m hm).symm, h.lt, fun z => h.sign z.symm, fun j hj => (h.leastI j hj).symm⟩
theorem sign_of {s1 s2 : List (List Int)} (h1 : ∀ s ∈ s1, OrdOk s) (h2 : ∀ s ∈ s2, OrdOk s) {n : Nat} (hp : ¬ sameAt s1 s2 n) : ∃ i, i < n ∧ plcS s1 n i ≠ plcS s2 n i ∧ ∀ j, j < i → plcS s1 n j = plcS s2 n j := by
  have : ∃ i, i < n ∧ plcS s1 n i ≠ plcS s2 n i := Classical.byContradiction fun hn => hp (same_of_places h1 h2 fun i hi => Classical.byContradiction fun z => hn ⟨i, hi, z⟩)
  obtain ⟨k, hk, hk2⟩ := this
  obtain ⟨m, hm, pm, hl⟩ := least_of (p := fun i => plcS s1 n i ≠ plcS s2 n i) hk2
  exact ⟨m, by omega, pm, fun j hj => Classical.byContradiction fun z => hl j hj z⟩
theorem filter_head {n i : Nat} {t : Nat → Bool} (hi : i < n) (ht : t i = true) (hl : ∀ j, j < i → t j = false) : ∃ r, (List.range n).filter t = i :: r := by
  obtain ⟨k, rfl⟩ : ∃ k, n = i + (k + 1) := ⟨n - i - 1, by omega⟩
  rw [List.range_add, List.filter_append, List.filter_eq_nil_iff.mpr (fun j hj => by rw [hl j (List.mem_range.mp hj)]; simp), List.nil_append, List.range_succ_eq_map, List.map_cons, Nat.add_zero, List.filter_cons_of_pos ht]
  exact ⟨_, rfl⟩
theorem cut_mid (xs : List PyData) {a b : Nat} (h : a ≤ b) : cutD xs (some (a : Int)) (some (b : Int)) = (xs.drop a).take (b - a) := by
  unfold cutD
  rw [HT.sIx_nat, HT.sIx_nat]
  rcases Nat.le_total a xs.length with ha | ha
  · rw [Nat.min_eq_left ha]
    rcases Nat.le_total b xs.length with hb | hb
    · rw [Nat.min_eq_left hb]
    · rw [Nat.min_eq_right hb, List.take_of_length_le (by rw [List.length_drop]; exact Nat.le_refl _), List.take_of_length_le (by rw [List.length_drop]; omega)]
  · rw [Nat.min_eq_right ha, List.drop_length, List.take_nil, List.drop_eq_nil_of_le ha, List.take_nil]
section
variable {c : Cd} {M : Mem} {P : D → Mem → Prop} {xs : List PyData} {x : D} {i j : Int}
theorem st_take {n : Nat} (hi : i = (n : Int)) (p : P (dT (xs.take n)) M) : OS c (dT xs) none (some i) M P := by
  subst hi; exact sl_tup (by rw [cut_take]; exact p)
theorem st_drop {n : Nat} (hi : i = (n : Int)) (p : P (dT (xs.drop n)) M) : OS c (dT xs) (some i) none M P := by
  subst hi; exact sl_tup (by rw [cut_drop]; exact p)
theorem st_mid {a b : Nat} (hi : i = (a : Int)) (hj : j = (b : Int)) (h : a ≤ b) (p : P (dT ((xs.drop a).take (b - a))) M) : OS c (dT xs) (some i) (some j) M P := by
  subst hi hj; exact sl_tup (by rw [cut_mid _ h]; exact p)
theorem slt_take {n : Nat} (hx : Rdd M x (.list xs)) (hi : i = (n : Int)) (p : ∀ a, P (.own a) ((a, .lst (xs.take n)) :: M)) : OS c x none (some i) M P := by
  subst hi; exact sl_lst hx fun a => by rw [cut_take]; exact p a
theorem slt_drop {n : Nat} (hx : Rdd M x (.list xs)) (hi : i = (n : Int)) (p : ∀ a, P (.own a) ((a, .lst (xs.drop n)) :: M)) : OS c x (some i) none M P := by
  subst hi; exact sl_lst hx fun a => by rw [cut_drop]; exact p a
end
theorem allQ_map : ∀ ds : List PyData, allP (ds.map D.p) = some ds
  | [] => rfl
  | d :: ds => by
    show (allP (ds.map D.p)).map (d :: ·) = _
    rw [allQ_map ds]; rfl
theorem allQ {ds : List D} {ps : List PyData} (h : ds = ps.map D.p) : allP ds = some ps := by subst h; exact allQ_map ps
end CR

namespace CR
open PySem PySem.Spec PyProof.Rows L2
open Evl (Ex)
def topS (i : Nat) : Stmt := PySem.Challenge.pw_columnread_k21_known_readings.main.body.getD i (.Pass ⟨0, 0, 0, 0⟩)
abbrev S__wall : Stmt := topS 0
abbrev N__wall : List Str := ["k"]
abbrev A__wall : List Str := ["k"]
theorem sc__wall : FnScope ["k"] ["k"] (defScope S__wall) := ⟨rfl, rfl, rfl, by decide +kernel, rfl, by decide +kernel, by decide +kernel⟩
abbrev S_ReadError : Stmt := topS 2
abbrev S_InvalidSteps : Stmt := topS 3
abbrev S_TooLong : Stmt := topS 4
abbrev S_InvalidLength : Stmt := topS 5
abbrev S_NoSign : Stmt := topS 6
abbrev S_AllStill : Stmt := topS 7
abbrev S_InvalidLimit : Stmt := topS 8
abbrev S_InvalidSeen : Stmt := topS 9
abbrev S_is_integer : Stmt := topS 13
abbrev N_is_integer : List Str := ["thing", "low", "high"]
abbrev A_is_integer : List Str := ["thing", "low", "high"]
theorem sc_is_integer : FnScope ["thing", "low", "high"] ["thing", "low", "high"] (defScope S_is_integer) := ⟨rfl, rfl, rfl, by decide +kernel, rfl, by decide +kernel, by decide +kernel⟩
abbrev S_is_step : Stmt := topS 14
abbrev N_is_step : List Str := ["thing", "number"]
abbrev A_is_step : List Str := ["thing"]
theorem sc_is_step : FnScope ["thing", "number"] ["thing"] (defScope S_is_step) := ⟨rfl, rfl, rfl, by decide +kernel, rfl, by decide +kernel, by decide +kernel⟩
abbrev S_product_of : Stmt := topS 15
abbrev N_product_of : List Str := ["steps", "found", "step"]
abbrev A_product_of : List Str := ["steps"]
theorem sc_product_of : FnScope ["steps", "found", "step"] ["steps"] (defScope S_product_of) := ⟨rfl, rfl, rfl, by decide +kernel, rfl, by decide +kernel, by decide +kernel⟩
abbrev S_Script : Stmt := topS 16
abbrev S_Script___init__ : Stmt := inClass (topS 16) 0
abbrev N_Script___init__ : List Str := ["self", "steps", "index", "step"]
abbrev A_Script___init__ : List Str := ["self", "steps"]
theorem sc_Script___init__ : FnScope ["self", "steps", "index", "step"] ["self", "steps"] (defScope S_Script___init__) := ⟨rfl, rfl, rfl, by decide +kernel, rfl, by decide +kernel, by decide +kernel⟩
abbrev S_Script_steps : Stmt := inClass (topS 16) 1
abbrev N_Script_steps : List Str := ["self"]
abbrev A_Script_steps : List Str := ["self"]
theorem sc_Script_steps : FnScope ["self"] ["self"] (defScope S_Script_steps) := ⟨rfl, rfl, rfl, by decide +kernel, rfl, by decide +kernel, by decide +kernel⟩
abbrev S_Script_wide : Stmt := inClass (topS 16) 2
abbrev N_Script_wide : List Str := ["self"]
abbrev A_Script_wide : List Str := ["self"]
theorem sc_Script_wide : FnScope ["self"] ["self"] (defScope S_Script_wide) := ⟨rfl, rfl, rfl, by decide +kernel, rfl, by decide +kernel, by decide +kernel⟩
abbrev S_Script___len__ : Stmt := inClass (topS 16) 3
abbrev N_Script___len__ : List Str := ["self"]
abbrev A_Script___len__ : List Str := ["self"]
theorem sc_Script___len__ : FnScope ["self"] ["self"] (defScope S_Script___len__) := ⟨rfl, rfl, rfl, by decide +kernel, rfl, by decide +kernel, by decide +kernel⟩
abbrev S_Script___eq__ : Stmt := inClass (topS 16) 4
abbrev N_Script___eq__ : List Str := ["self", "other"]
abbrev A_Script___eq__ : List Str := ["self", "other"]
theorem sc_Script___eq__ : FnScope ["self", "other"] ["self", "other"] (defScope S_Script___eq__) := ⟨rfl, rfl, rfl, by decide +kernel, rfl, by decide +kernel, by decide +kernel⟩
abbrev S_Script___add__ : Stmt := inClass (topS 16) 5
abbrev N_Script___add__ : List Str := ["self", "other"]
abbrev A_Script___add__ : List Str := ["self", "other"]
theorem sc_Script___add__ : FnScope ["self", "other"] ["self", "other"] (defScope S_Script___add__) := ⟨rfl, rfl, rfl, by decide +kernel, rfl, by decide +kernel, by decide +kernel⟩
abbrev S_column_size : Stmt := topS 19
abbrev N_column_size : List Str := ["wide", "length", "column"]
abbrev A_column_size : List Str := ["wide", "length", "column"]
theorem sc_column_size : FnScope ["wide", "length", "column"] ["wide", "length", "column"] (defScope S_column_size) := ⟨rfl, rfl, rfl, by decide +kernel, rfl, by decide +kernel, by decide +kernel⟩
abbrev S_place_by : Stmt := topS 20
abbrev N_place_by : List Str := ["step", "length", "sign", "wide", "column", "row", "begun", "number", "size"]
abbrev A_place_by : List Str := ["step", "length", "sign"]
theorem sc_place_by : FnScope ["step", "length", "sign", "wide", "column", "row", "begun", "number", "size"] ["step", "length", "sign"] (defScope S_place_by) := ⟨rfl, rfl, rfl, by decide +kernel, rfl, by decide +kernel, by decide +kernel⟩
abbrev S_whence_by : Stmt := topS 21
abbrev N_whence_by : List Str := ["step", "length", "place", "wide", "number", "size", "row"]
abbrev A_whence_by : List Str := ["step", "length", "place"]
theorem sc_whence_by : FnScope ["step", "length", "place", "wide", "number", "size", "row"] ["step", "length", "place"] (defScope S_whence_by) := ⟨rfl, rfl, rfl, by decide +kernel, rfl, by decide +kernel, by decide +kernel⟩
abbrev S_check_length : Stmt := topS 22
abbrev N_check_length : List Str := ["length"]
abbrev A_check_length : List Str := ["length"]
theorem sc_check_length : FnScope ["length"] ["length"] (defScope S_check_length) := ⟨rfl, rfl, rfl, by decide +kernel, rfl, by decide +kernel, by decide +kernel⟩
abbrev S_check_sign : Stmt := topS 23
abbrev N_check_sign : List Str := ["length", "sign"]
abbrev A_check_sign : List Str := ["length", "sign"]
theorem sc_check_sign : FnScope ["length", "sign"] ["length", "sign"] (defScope S_check_sign) := ⟨rfl, rfl, rfl, by decide +kernel, rfl, by decide +kernel, by decide +kernel⟩
abbrev S_place_in : Stmt := topS 24
abbrev N_place_in : List Str := ["steps", "length", "sign", "step"]
abbrev A_place_in : List Str := ["steps", "length", "sign"]
theorem sc_place_in : FnScope ["steps", "length", "sign", "step"] ["steps", "length", "sign"] (defScope S_place_in) := ⟨rfl, rfl, rfl, by decide +kernel, rfl, by decide +kernel, by decide +kernel⟩
abbrev S_place : Stmt := topS 25
abbrev N_place : List Str := ["script", "length", "sign"]
abbrev A_place : List Str := ["script", "length", "sign"]
theorem sc_place : FnScope ["script", "length", "sign"] ["script", "length", "sign"] (defScope S_place) := ⟨rfl, rfl, rfl, by decide +kernel, rfl, by decide +kernel, by decide +kernel⟩
abbrev S_whence : Stmt := topS 26
abbrev N_whence : List Str := ["script", "length", "place", "step"]
abbrev A_whence : List Str := ["script", "length", "place"]
theorem sc_whence : FnScope ["script", "length", "place", "step"] ["script", "length", "place"] (defScope S_whence) := ⟨rfl, rfl, rfl, by decide +kernel, rfl, by decide +kernel, by decide +kernel⟩
abbrev S_read_items : Stmt := topS 27
abbrev N_read_items : List Str := ["order", "items", "found", "wide", "number", "column"]
abbrev A_read_items : List Str := ["order", "items"]
theorem sc_read_items : FnScope ["order", "items", "found", "wide", "number", "column"] ["order", "items"] (defScope S_read_items) := ⟨rfl, rfl, rfl, by decide +kernel, rfl, by decide +kernel, by decide +kernel⟩
abbrev S_done_items : Stmt := topS 28
abbrev N_done_items : List Str := ["steps", "items", "step"]
abbrev A_done_items : List Str := ["steps", "items"]
theorem sc_done_items : FnScope ["steps", "items", "step"] ["steps", "items"] (defScope S_done_items) := ⟨rfl, rfl, rfl, by decide +kernel, rfl, by decide +kernel, by decide +kernel⟩
abbrev S_like : Stmt := topS 29
abbrev N_like : List Str := ["text", "items"]
abbrev A_like : List Str := ["text", "items"]
theorem sc_like : FnScope ["text", "items"] ["text", "items"] (defScope S_like) := ⟨rfl, rfl, rfl, by decide +kernel, rfl, by decide +kernel, by decide +kernel⟩
abbrev S_done : Stmt := topS 30
abbrev N_done : List Str := ["script", "text"]
abbrev A_done : List Str := ["script", "text"]
theorem sc_done : FnScope ["script", "text"] ["script", "text"] (defScope S_done) := ⟨rfl, rfl, rfl, by decide +kernel, rfl, by decide +kernel, by decide +kernel⟩
abbrev S_back : Stmt := topS 31
abbrev N_back : List Str := ["script", "text", "many", "numbers", "found", "spot", "number"]
abbrev A_back : List Str := ["script", "text"]
theorem sc_back : FnScope ["script", "text", "many", "numbers", "found", "spot", "number"] ["script", "text"] (defScope S_back) := ⟨rfl, rfl, rfl, by decide +kernel, rfl, by decide +kernel, by decide +kernel⟩
abbrev S_next_blocks : Stmt := topS 34
abbrev N_next_blocks : List Str := ["blocks", "wide", "step", "length", "many", "begun", "columns", "column", "part", "way", "size", "turn", "found", "number", "some"]
abbrev A_next_blocks : List Str := ["blocks", "wide", "step", "length"]
theorem sc_next_blocks : FnScope ["blocks", "wide", "step", "length", "many", "begun", "columns", "column", "part", "way", "size", "turn", "found", "number", "some"] ["blocks", "wide", "step", "length"] (defScope S_next_blocks) := ⟨rfl, rfl, rfl, by decide +kernel, rfl, by decide +kernel, by decide +kernel⟩
abbrev S_order_for : Stmt := topS 35
abbrev N_order_for : List Str := ["steps", "length", "blocks", "wide", "step", "part", "way"]
abbrev A_order_for : List Str := ["steps", "length"]
theorem sc_order_for : FnScope ["steps", "length", "blocks", "wide", "step", "part", "way"] ["steps", "length"] (defScope S_order_for) := ⟨rfl, rfl, rfl, by decide +kernel, rfl, by decide +kernel, by decide +kernel⟩
abbrev S_orders_of : Stmt := topS 36
abbrev N_orders_of : List Str := ["script", "remainder"]
abbrev A_orders_of : List Str := ["script"]
theorem sc_orders_of : FnScope ["script", "remainder"] ["script"] (defScope S_orders_of) := ⟨rfl, rfl, rfl, by decide +kernel, rfl, by decide +kernel, by decide +kernel⟩
abbrev S_orders : Stmt := topS 37
abbrev N_orders : List Str := ["script"]
abbrev A_orders : List Str := ["script"]
theorem sc_orders : FnScope ["script"] ["script"] (defScope S_orders) := ⟨rfl, rfl, rfl, by decide +kernel, rfl, by decide +kernel, by decide +kernel⟩
abbrev S_order_at : Stmt := topS 38
abbrev N_order_at : List Str := ["script", "length"]
abbrev A_order_at : List Str := ["script", "length"]
theorem sc_order_at : FnScope ["script", "length"] ["script", "length"] (defScope S_order_at) := ⟨rfl, rfl, rfl, by decide +kernel, rfl, by decide +kernel, by decide +kernel⟩
abbrev S_is_steady : Stmt := topS 39
abbrev N_is_steady : List Str := ["script", "some", "order"]
abbrev A_is_steady : List Str := ["script"]
theorem sc_is_steady : FnScope ["script", "some", "order"] ["script"] (defScope S_is_steady) := ⟨rfl, rfl, rfl, by decide +kernel, rfl, by decide +kernel, by decide +kernel⟩
abbrev S_read_by : Stmt := topS 40
abbrev N_read_by : List Str := ["order", "text"]
abbrev A_read_by : List Str := ["order", "text"]
theorem sc_read_by : FnScope ["order", "text"] ["order", "text"] (defScope S_read_by) := ⟨rfl, rfl, rfl, by decide +kernel, rfl, by decide +kernel, by decide +kernel⟩
abbrev S_are_alike : Stmt := topS 42
abbrev N_are_alike : List Str := ["one", "other"]
abbrev A_are_alike : List Str := ["one", "other"]
theorem sc_are_alike : FnScope ["one", "other"] ["one", "other"] (defScope S_are_alike) := ⟨rfl, rfl, rfl, by decide +kernel, rfl, by decide +kernel, by decide +kernel⟩
abbrev S_are_same : Stmt := topS 43
abbrev N_are_same : List Str := ["one", "other", "length", "items"]
abbrev A_are_same : List Str := ["one", "other", "length"]
theorem sc_are_same : FnScope ["one", "other", "length", "items"] ["one", "other", "length"] (defScope S_are_same) := ⟨rfl, rfl, rfl, by decide +kernel, rfl, by decide +kernel, by decide +kernel⟩
abbrev S_places_in : Stmt := topS 44
abbrev N_places_in : List Str := ["script", "length", "found", "spot", "number"]
abbrev A_places_in : List Str := ["script", "length"]
theorem sc_places_in : FnScope ["script", "length", "found", "spot", "number"] ["script", "length"] (defScope S_places_in) := ⟨rfl, rfl, rfl, by decide +kernel, rfl, by decide +kernel, by decide +kernel⟩
abbrev S_parting : Stmt := topS 45
abbrev N_parting : List Str := ["one", "other", "length", "here", "there", "sign"]
abbrev A_parting : List Str := ["one", "other"]
theorem sc_parting : FnScope ["one", "other", "length", "here", "there", "sign"] ["one", "other"] (defScope S_parting) := ⟨rfl, rfl, rfl, by decide +kernel, rfl, by decide +kernel, by decide +kernel⟩
abbrev S_alike : Stmt := topS 46
abbrev N_alike : List Str := ["one", "other"]
abbrev A_alike : List Str := ["one", "other"]
theorem sc_alike : FnScope ["one", "other"] ["one", "other"] (defScope S_alike) := ⟨rfl, rfl, rfl, by decide +kernel, rfl, by decide +kernel, by decide +kernel⟩
abbrev S_common : Stmt := topS 47
abbrev N_common : List Str := ["one", "other", "first", "second"]
abbrev A_common : List Str := ["one", "other"]
theorem sc_common : FnScope ["one", "other", "first", "second"] ["one", "other"] (defScope S_common) := ⟨rfl, rfl, rfl, by decide +kernel, rfl, by decide +kernel, by decide +kernel⟩
abbrev S_agreeing : Stmt := topS 48
abbrev N_agreeing : List Str := ["one", "other", "is_even", "period", "pairs", "remainders", "at", "pair", "bound", "told", "length", "start"]
abbrev A_agreeing : List Str := ["one", "other"]
theorem sc_agreeing : FnScope ["one", "other", "is_even", "period", "pairs", "remainders", "at", "pair", "bound", "told", "length", "start"] ["one", "other"] (defScope S_agreeing) := ⟨rfl, rfl, rfl, by decide +kernel, rfl, by decide +kernel, by decide +kernel⟩
abbrev S_Bench : Stmt := topS 50
abbrev S_Bench___init__ : Stmt := inClass (topS 50) 0
abbrev N_Bench___init__ : List Str := ["self", "text"]
abbrev A_Bench___init__ : List Str := ["self", "text"]
theorem sc_Bench___init__ : FnScope ["self", "text"] ["self", "text"] (defScope S_Bench___init__) := ⟨rfl, rfl, rfl, by decide +kernel, rfl, by decide +kernel, by decide +kernel⟩
abbrev S_Bench_text : Stmt := inClass (topS 50) 1
abbrev N_Bench_text : List Str := ["self"]
abbrev A_Bench_text : List Str := ["self"]
theorem sc_Bench_text : FnScope ["self"] ["self"] (defScope S_Bench_text) := ⟨rfl, rfl, rfl, by decide +kernel, rfl, by decide +kernel, by decide +kernel⟩
abbrev S_Bench_log : Stmt := inClass (topS 50) 2
abbrev N_Bench_log : List Str := ["self"]
abbrev A_Bench_log : List Str := ["self"]
theorem sc_Bench_log : FnScope ["self"] ["self"] (defScope S_Bench_log) := ⟨rfl, rfl, rfl, by decide +kernel, rfl, by decide +kernel, by decide +kernel⟩
abbrev S_Bench_left : Stmt := inClass (topS 50) 3
abbrev N_Bench_left : List Str := ["self"]
abbrev A_Bench_left : List Str := ["self"]
theorem sc_Bench_left : FnScope ["self"] ["self"] (defScope S_Bench_left) := ⟨rfl, rfl, rfl, by decide +kernel, rfl, by decide +kernel, by decide +kernel⟩
abbrev S_Bench___len__ : Stmt := inClass (topS 50) 4
abbrev N_Bench___len__ : List Str := ["self"]
abbrev A_Bench___len__ : List Str := ["self"]
theorem sc_Bench___len__ : FnScope ["self"] ["self"] (defScope S_Bench___len__) := ⟨rfl, rfl, rfl, by decide +kernel, rfl, by decide +kernel, by decide +kernel⟩
abbrev S_Bench_go : Stmt := inClass (topS 50) 5
abbrev N_Bench_go : List Str := ["self", "step"]
abbrev A_Bench_go : List Str := ["self", "step"]
theorem sc_Bench_go : FnScope ["self", "step"] ["self", "step"] (defScope S_Bench_go) := ⟨rfl, rfl, rfl, by decide +kernel, rfl, by decide +kernel, by decide +kernel⟩
abbrev S_Bench_read : Stmt := inClass (topS 50) 6
abbrev N_Bench_read : List Str := ["self", "step"]
abbrev A_Bench_read : List Str := ["self", "step"]
theorem sc_Bench_read : FnScope ["self", "step"] ["self", "step"] (defScope S_Bench_read) := ⟨rfl, rfl, rfl, by decide +kernel, rfl, by decide +kernel, by decide +kernel⟩
abbrev S_Bench_undo : Stmt := inClass (topS 50) 7
abbrev N_Bench_undo : List Str := ["self"]
abbrev A_Bench_undo : List Str := ["self"]
theorem sc_Bench_undo : FnScope ["self"] ["self"] (defScope S_Bench_undo) := ⟨rfl, rfl, rfl, by decide +kernel, rfl, by decide +kernel, by decide +kernel⟩
abbrev S_Bench_redo : Stmt := inClass (topS 50) 8
abbrev N_Bench_redo : List Str := ["self"]
abbrev A_Bench_redo : List Str := ["self"]
theorem sc_Bench_redo : FnScope ["self"] ["self"] (defScope S_Bench_redo) := ⟨rfl, rfl, rfl, by decide +kernel, rfl, by decide +kernel, by decide +kernel⟩
abbrev S_Bench_way : Stmt := inClass (topS 50) 9
abbrev N_Bench_way : List Str := ["self", "many"]
abbrev A_Bench_way : List Str := ["self", "many"]
theorem sc_Bench_way : FnScope ["self", "many"] ["self", "many"] (defScope S_Bench_way) := ⟨rfl, rfl, rfl, by decide +kernel, rfl, by decide +kernel, by decide +kernel⟩
abbrev S_text_now : Stmt := topS 51
abbrev N_text_now : List Str := ["bench", "number"]
abbrev A_text_now : List Str := ["bench"]
theorem sc_text_now : FnScope ["bench", "number"] ["bench"] (defScope S_text_now) := ⟨rfl, rfl, rfl, by decide +kernel, rfl, by decide +kernel, by decide +kernel⟩
abbrev S_rows_of : Stmt := topS 55
abbrev N_rows_of : List Str := ["numbers", "found", "number", "rest", "one", "row"]
abbrev A_rows_of : List Str := ["numbers"]
theorem sc_rows_of : FnScope ["numbers", "found", "number", "rest", "one", "row"] ["numbers"] (defScope S_rows_of) := ⟨rfl, rfl, rfl, by decide +kernel, rfl, by decide +kernel, by decide +kernel⟩
abbrev S_all_steps : Stmt := topS 56
abbrev N_all_steps : List Str := ["wide"]
abbrev A_all_steps : List Str := ["wide"]
theorem sc_all_steps : FnScope ["wide"] ["wide"] (defScope S_all_steps) := ⟨rfl, rfl, rfl, by decide +kernel, rfl, by decide +kernel, by decide +kernel⟩
abbrev S_exchangeable : Stmt := topS 57
abbrev N_exchangeable : List Str := ["script", "found", "steps", "index", "other"]
abbrev A_exchangeable : List Str := ["script"]
theorem sc_exchangeable : FnScope ["script", "found", "steps", "index", "other"] ["script"] (defScope S_exchangeable) := ⟨rfl, rfl, rfl, by decide +kernel, rfl, by decide +kernel, by decide +kernel⟩
abbrev S_candidates : Stmt := topS 58
abbrev N_candidates : List Str := ["wide", "many", "step", "sizes", "size", "pairs", "one", "other"]
abbrev A_candidates : List Str := ["wide", "many"]
theorem sc_candidates : FnScope ["wide", "many", "step", "sizes", "size", "pairs", "one", "other"] ["wide", "many"] (defScope S_candidates) := ⟨rfl, rfl, rfl, by decide +kernel, rfl, by decide +kernel, by decide +kernel⟩
abbrev S_shortest : Stmt := topS 59
abbrev N_shortest : List Str := ["script", "many", "found", "steps"]
abbrev A_shortest : List Str := ["script"]
theorem sc_shortest : FnScope ["script", "many", "found", "steps"] ["script"] (defScope S_shortest) := ⟨rfl, rfl, rfl, by decide +kernel, rfl, by decide +kernel, by decide +kernel⟩
abbrev S_is_seen : Stmt := topS 60
abbrev N_is_seen : List Str := ["thing"]
abbrev A_is_seen : List Str := ["thing"]
theorem sc_is_seen : FnScope ["thing"] ["thing"] (defScope S_is_seen) := ⟨rfl, rfl, rfl, by decide +kernel, rfl, by decide +kernel, by decide +kernel⟩
abbrev S_behind_step : Stmt := topS 61
abbrev N_behind_step : List Str := ["step", "rows", "length", "sign", "goal"]
abbrev A_behind_step : List Str := ["step", "rows"]
theorem sc_behind_step : FnScope ["step", "rows", "length", "sign", "goal"] ["step", "rows"] (defScope S_behind_step) := ⟨rfl, rfl, rfl, by decide +kernel, rfl, by decide +kernel, by decide +kernel⟩
abbrev S_fits : Stmt := topS 62
abbrev N_fits : List Str := ["rows", "length", "sign", "goal"]
abbrev A_fits : List Str := ["rows"]
theorem sc_fits : FnScope ["rows", "length", "sign", "goal"] ["rows"] (defScope S_fits) := ⟨rfl, rfl, rfl, by decide +kernel, rfl, by decide +kernel, by decide +kernel⟩
abbrev S_fitting : Stmt := topS 63
abbrev N_fitting : List Str := ["seen", "most", "index", "thing", "steps", "wide", "step", "layer", "found", "many", "done", "rows"]
abbrev A_fitting : List Str := ["seen", "most"]
theorem sc_fitting : FnScope ["seen", "most", "index", "thing", "steps", "wide", "step", "layer", "found", "many", "done", "rows"] ["seen", "most"] (defScope S_fitting) := ⟨rfl, rfl, rfl, by decide +kernel, rfl, by decide +kernel, by decide +kernel⟩
abbrev S_still_in : Stmt := topS 65
abbrev N_still_in : List Str := ["wide", "part", "way", "begun", "size", "top", "bottom"]
abbrev A_still_in : List Str := ["wide", "part", "way", "begun", "size"]
theorem sc_still_in : FnScope ["wide", "part", "way", "begun", "size", "top", "bottom"] ["wide", "part", "way", "begun", "size"] (defScope S_still_in) := ⟨rfl, rfl, rfl, by decide +kernel, rfl, by decide +kernel, by decide +kernel⟩
abbrev S_still : Stmt := topS 66
abbrev N_still : List Str := ["script", "length", "wide", "order", "found", "begun", "number", "part", "size"]
abbrev A_still : List Str := ["script", "length"]
theorem sc_still : FnScope ["script", "length", "wide", "order", "found", "begun", "number", "part", "size"] ["script", "length"] (defScope S_still) := ⟨rfl, rfl, rfl, by decide +kernel, rfl, by decide +kernel, by decide +kernel⟩
abbrev S_divisor : Stmt := topS 67
abbrev N_divisor : List Str := ["one", "other"]
abbrev A_divisor : List Str := ["one", "other"]
theorem sc_divisor : FnScope ["one", "other"] ["one", "other"] (defScope S_divisor) := ⟨rfl, rfl, rfl, by decide +kernel, rfl, by decide +kernel, by decide +kernel⟩
abbrev S_rounds : Stmt := topS 68
abbrev N_rounds : List Str := ["script", "length", "numbers", "seen", "found", "begin", "many", "here"]
abbrev A_rounds : List Str := ["script", "length"]
theorem sc_rounds : FnScope ["script", "length", "numbers", "seen", "found", "begin", "many", "here"] ["script", "length"] (defScope S_rounds) := ⟨rfl, rfl, rfl, by decide +kernel, rfl, by decide +kernel, by decide +kernel⟩
abbrev S__law_mix : Stmt := topS 70
abbrev N__law_mix : List Str := ["_law_script", "_law_seed", "_law_state", "_law_cell"]
abbrev A__law_mix : List Str := ["_law_script", "_law_seed"]
theorem sc__law_mix : FnScope ["_law_script", "_law_seed", "_law_state", "_law_cell"] ["_law_script", "_law_seed"] (defScope S__law_mix) := ⟨rfl, rfl, rfl, by decide +kernel, rfl, by decide +kernel, by decide +kernel⟩
abbrev S__law_next : Stmt := topS 71
abbrev N__law_next : List Str := ["_law_h", "_law_cap", "_law_cell"]
abbrev A__law_next : List Str := ["_law_h", "_law_cap"]
theorem sc__law_next : FnScope ["_law_h", "_law_cap", "_law_cell"] ["_law_h", "_law_cap"] (defScope S__law_next) := ⟨rfl, rfl, rfl, by decide +kernel, rfl, by decide +kernel, by decide +kernel⟩
abbrev S__law_pick : Stmt := topS 72
abbrev N__law_pick : List Str := ["_law_h", "_law_things"]
abbrev A__law_pick : List Str := ["_law_h", "_law_things"]
theorem sc__law_pick : FnScope ["_law_h", "_law_things"] ["_law_h", "_law_things"] (defScope S__law_pick) := ⟨rfl, rfl, rfl, by decide +kernel, rfl, by decide +kernel, by decide +kernel⟩
abbrev S__law_rows : Stmt := topS 73
abbrev N__law_rows : List Str := ["_law_rows_here", "_law_twice"]
abbrev A__law_rows : List Str := []
theorem sc__law_rows : FnScope ["_law_rows_here", "_law_twice"] [] (defScope S__law_rows) := ⟨rfl, rfl, rfl, by decide +kernel, rfl, by decide +kernel, by decide +kernel⟩
abbrev S__law_evens : Stmt := topS 74
abbrev N__law_evens : List Str := ["_law_once", "_law_twice", "_law_length"]
abbrev A__law_evens : List Str := []
theorem sc__law_evens : FnScope ["_law_once", "_law_twice", "_law_length"] [] (defScope S__law_evens) := ⟨rfl, rfl, rfl, by decide +kernel, rfl, by decide +kernel, by decide +kernel⟩
abbrev S__law_turned : Stmt := topS 75
abbrev N__law_turned : List Str := ["_law_turn", "_law_once"]
abbrev A__law_turned : List Str := []
theorem sc__law_turned : FnScope ["_law_turn", "_law_once"] [] (defScope S__law_turned) := ⟨rfl, rfl, rfl, by decide +kernel, rfl, by decide +kernel, by decide +kernel⟩
abbrev S_law : Stmt := topS 76
abbrev N_law : List Str := ["_law_script", "_law_h", "_law_kind", "_law_bench"]
abbrev A_law : List Str := ["_law_script"]
theorem sc_law : FnScope ["_law_script", "_law_h", "_law_kind", "_law_bench"] ["_law_script"] (defScope S_law) := ⟨rfl, rfl, rfl, by decide +kernel, rfl, by decide +kernel, by decide +kernel⟩
end CR

namespace CR
open PySem PySem.Spec PyProof.Rows L2
open Evl (Ex)
local macro_rules | `(tactic| walk_at "x") => `(tactic| first
  | ((with_reducible show ∃ ps, allP _ = some ps ∧ _); refine ⟨_, rfl, rfl, ?_⟩)
  | ((with_reducible show (true = true → _) ∧ (true = false → _)); refine ⟨fun _ => ?_, fun z => absurd z (by decide)⟩)
  | ((with_reducible show ((!true) = true → _) ∧ ((!true) = false → _)); refine ⟨fun z => absurd z (by decide), fun _ => ?_⟩)
  | ((with_reducible show ((!false) = true → _) ∧ ((!false) = false → _)); refine ⟨fun _ => ?_, fun z => absurd z (by decide)⟩)
  | ((with_reducible show (false = true → _) ∧ (false = false → _)); refine ⟨fun z => absurd z (by decide), fun _ => ?_⟩)
  | with_reducible refine ⟨_, rfl, ?_⟩
  | ((with_reducible show Ee _ _ _ (.Name _ _) _); first
    | ((with_reducible refine' e_var (by assumption) ?v ?d ?x ?y ?_); (case v => first | exact Or.inl rfl | exact Or.inr (Or.inl rfl) | exact Or.inr (Or.inr rfl)); (case d => rfl); (case x => decide); (case y => decide))
    | ((with_reducible refine' e_glob (by assumption) (by assumption) ?h ?x ?_); (case h => rfl); (case x => decide)))
  | ((with_reducible show Ee _ _ _ (.Constant _ _ _) _); first
    | with_reducible refine' e_int ?_
    | with_reducible refine' e_str ?_
    | with_reducible refine' e_bl ?_
    | with_reducible refine' e_non ?_)
  | ((with_reducible show Ee _ _ _ (.Call (.Name _ _) _ _ _) _); first
    | ((with_reducible refine' e_isiInt (by assumption) ?m ?n ?g ?h ?e ?f ?p ?_); (case m => assumption); (case n => assumption); (case g => rfl); (case h => rfl); (case e => rfl); (case f => rfl); (case p => rfl))
    | ((with_reducible refine' e_isiBool (by assumption) ?m ?n ?g ?h ?e ?f ?p ?_); (case m => assumption); (case n => assumption); (case g => rfl); (case h => rfl); (case e => rfl); (case f => rfl); (case p => rfl))
    | ((with_reducible refine' e_isiTuple (by assumption) ?m ?n ?g ?h ?e ?f ?p ?_); (case m => assumption); (case n => assumption); (case g => rfl); (case h => rfl); (case e => rfl); (case f => rfl); (case p => rfl))
    | ((with_reducible refine' e_isiList (by assumption) ?m ?n ?g ?h ?e ?f ?p ?_); (case m => assumption); (case n => assumption); (case g => rfl); (case h => rfl); (case e => rfl); (case f => rfl); (case p => rfl))
    | ((with_reducible refine' e_isiStr (by assumption) ?m ?n ?g ?h ?e ?f ?p ?_); (case m => assumption); (case n => assumption); (case g => rfl); (case h => rfl); (case e => rfl); (case f => rfl); (case p => rfl))
    | ((with_reducible refine' e_isiDict (by assumption) ?m ?n ?g ?h ?e ?f ?p ?_); (case m => assumption); (case n => assumption); (case g => rfl); (case h => rfl); (case e => rfl); (case f => rfl); (case p => rfl))
    | ((with_reducible refine' e_isiTL (by assumption) ?m ?n ?l ?g ?h ?i ?e ?f ?p ?q ?r ?_); (case m => assumption); (case n => assumption); (case l => assumption); (case g => rfl); (case h => rfl); (case i => rfl); (case e => rfl); (case f => rfl); (case p => rfl); (case q => rfl); (case r => rfl))
    | ((with_reducible refine' e_call (by assumption) (by assumption) ?j ?g ?x ?e ?p ?_); (case j => first | exact Nat.le_refl _ | decide | omega); (case g => rfl); (case x => decide); (case e => rfl); (case p => rfl))
    | ((with_reducible refine' e_callN (by assumption) (by assumption) ?j ?g ?x ?e ?p ?_); (case j => first | exact Nat.le_refl _ | decide | omega); (case g => rfl); (case x => decide); (case e => rfl); (case p => rfl))
    | ((with_reducible refine' e_call0 (by assumption) (by assumption) ?j ?g ?x ?_); (case j => first | exact Nat.le_refl _ | decide | omega); (case g => rfl); (case x => decide))
    | ((with_reducible refine' e_mk (by assumption) (by assumption) (by assumption) ?j ?g ?e ?p ?_); (case j => first | exact Nat.le_refl _ | decide | omega); (case g => rfl); (case e => rfl); (case p => rfl))
    | ((with_reducible refine' e_listRg1 (by assumption) ?m ?n ?g ?h ?a ?b ?_); (case m => assumption); (case n => assumption); (case g => rfl); (case h => rfl); (case a => rfl); (case b => rfl))
    | ((with_reducible refine' e_listRg2 (by assumption) ?m ?n ?g ?h ?a ?b ?c ?d ?_); (case m => assumption); (case n => assumption); (case g => rfl); (case h => rfl); (case a => rfl); (case b => rfl); (case c => rfl); (case d => rfl))
    | ((with_reducible refine' e_callB (x := "len") (call_len' (by assumption)) (by assumption) ?g ?m ?v ?n ?x ?e ?p ?_); (case g => rfl); (case m => assumption); (case v => decide +kernel); (case n => decide); (case x => decide); (case e => rfl); (case p => rfl))
    | ((with_reducible refine' e_callB (x := "abs") call_abs (by assumption) ?g ?m ?v ?n ?x ?e ?p ?_); (case g => rfl); (case m => assumption); (case v => decide +kernel); (case n => decide); (case x => decide); (case e => rfl); (case p => rfl))
    | ((with_reducible refine' e_callTy (x := "int") call_intA (by assumption) ?g ?m ?v ?n ?x ?e ?p ?_); (case g => rfl); (case m => assumption); (case v => decide +kernel); (case n => decide); (case x => decide); (case e => rfl); (case p => rfl))
    | ((with_reducible refine' e_callTy (x := "str") call_str_int (by assumption) ?g ?m ?v ?n ?x ?e ?p ?_); (case g => rfl); (case m => assumption); (case v => decide +kernel); (case n => decide); (case x => decide); (case e => rfl); (case p => rfl))
    | ((with_reducible refine' e_callTy (x := "list") (call_list' (by assumption)) (by assumption) ?g ?m ?v ?n ?x ?e ?p ?_); (case g => rfl); (case m => assumption); (case v => decide +kernel); (case n => decide); (case x => decide); (case e => rfl); (case p => rfl))
    | ((with_reducible refine' e_callTy (x := "tuple") (call_tuple' (by assumption)) (by assumption) ?g ?m ?v ?n ?x ?e ?p ?_); (case g => rfl); (case m => assumption); (case v => decide +kernel); (case n => decide); (case x => decide); (case e => rfl); (case p => rfl))
    | ((with_reducible refine' e_callB (x := "isinstance") (call_isi' (by assumption)) (by assumption) ?g ?m ?v ?n ?x ?e ?p ?_); (case g => rfl); (case m => assumption); (case v => decide +kernel); (case n => decide); (case x => decide); (case e => rfl); (case p => rfl))
    | ((with_reducible refine' e_callB (x := "sorted") (cr_sorted' (by assumption)) (by assumption) ?g ?m ?v ?n ?x ?e ?p ?_); (case g => rfl); (case m => assumption); (case v => decide +kernel); (case n => decide); (case x => decide); (case e => rfl); (case p => rfl))
    | ((with_reducible refine' e_callB (x := "all") (cr_all' (by assumption)) (by assumption) ?g ?m ?v ?n ?x ?e ?p ?_); (case g => rfl); (case m => assumption); (case v => decide +kernel); (case n => decide); (case x => decide); (case e => rfl); (case p => rfl))
    | ((with_reducible refine' e_callB (x := "max") (call_max2 (Cd.Ok.calm (by assumption))) (by assumption) ?g ?m ?v ?n ?x ?e ?p ?_); (case g => rfl); (case m => assumption); (case v => decide +kernel); (case n => decide); (case x => decide); (case e => rfl); (case p => rfl))
    | ((with_reducible refine' e_callB (x := "min") (call_min2 (Cd.Ok.calm (by assumption))) (by assumption) ?g ?m ?v ?n ?x ?e ?p ?_); (case g => rfl); (case m => assumption); (case v => decide +kernel); (case n => decide); (case x => decide); (case e => rfl); (case p => rfl)))
  | ((with_reducible show Ee _ _ _ (.Call (.Attribute _ _ _) _ _ _) _); first
    | ((with_reducible refine' e_append (ok := by assumption) ?b ?c ?d ?e ?f ?_); (case b => rfl); (case c => rfl); (case d => rfl); (case e => rfl); (case f => rfl))
    | ((with_reducible refine' e_popAt (ok := by assumption) ?b ?c ?d ?e ?f ?_); (case b => rfl); (case c => rfl); (case d => rfl); (case e => rfl); (case f => rfl))
    | ((with_reducible refine' e_extend (ok := by assumption) ?b ?c ?d ?e ?f ?_); (case b => rfl); (case c => rfl); (case d => rfl); (case e => rfl); (case f => rfl))
    | ((with_reducible refine' e_reverse (ok := by assumption) ?b ?d ?_); (case b => rfl); (case d => rfl))
    | ((with_reducible refine' e_pop0 (ok := by assumption) ?b ?d ?_); (case b => rfl); (case d => rfl))
    | ((with_reducible refine' e_join (by assumption) ?a ?b ?c ?_); (case a => rfl); (case b => rfl); (case c => rfl))
    | ((with_reducible refine' e_split (by assumption) ?a ?b ?c ?_); (case a => rfl); (case b => rfl); (case c => rfl)))
  | ((with_reducible show Ee _ _ _ (.Attribute _ _ _) _); first
    | ((with_reducible refine' e_rdg (by assumption) (by assumption) ?b ?_); (case b => rfl))
    | ((with_reducible refine' e_prop (by assumption) (by assumption) (by assumption) ?j ?b ?_); (case j => first | exact Nat.le_refl _ | decide | omega); (case b => rfl)))
  | ((with_reducible show Ee _ _ _ (.BoolOp _ _ _) _); first
    | with_reducible refine' e_one ?_
    | with_reducible refine' e_and ?_
    | with_reducible refine' e_or ?_)
  | ((with_reducible show Ee _ _ _ (.UnaryOp _ _ _) _); first
    | with_reducible refine' e_not ?_
    | ((with_reducible show Ee _ _ _ (.UnaryOp .USub _ _) _); (with_reducible refine' e_un un_neg ?_)))
  | ((with_reducible show Ee _ _ _ (.BinOp _ _ _ _) _); first
    | with_reducible refine' e_add (by assumption) ?_
    | with_reducible refine' e_mul (by assumption) ?_
    | ((with_reducible show Ee _ _ _ (.BinOp _ .Sub _ _) _); (with_reducible refine' e_op op_sub ?_))
    | ((with_reducible show Ee _ _ _ (.BinOp _ .Mod _ _) _); (with_reducible refine' e_op op_mod ?_))
    | ((with_reducible show Ee _ _ _ (.BinOp _ .FloorDiv _ _) _); (with_reducible refine' e_op op_fdivW ?_))
    | ((with_reducible show Ee _ _ _ (.BinOp _ .Pow _ _) _); (with_reducible refine' e_op op_pow ?_)))
  | ((with_reducible show Ee _ _ _ (.Compare _ _ _ _) _); first
    | with_reducible refine' e_isN ?_
    | with_reducible refine' e_notN ?_
    | with_reducible refine' e_eq (by assumption) ?_
    | with_reducible refine' e_ne (by assumption) ?_
    | ((with_reducible refine' e_cmp (op := .Lt) op_lt ?m ?_); (case m => exact nomark _))
    | ((with_reducible refine' e_cmp (op := .LtE) op_le ?m ?_); (case m => exact nomark _))
    | ((with_reducible refine' e_cmp (op := .Gt) op_gt ?m ?_); (case m => exact nomark _))
    | ((with_reducible refine' e_cmp (op := .GtE) op_ge ?m ?_); (case m => exact nomark _))
    | ((with_reducible refine' e_in (by assumption) ?m ?_); (case m => with_unfolding_all rfl))
    | ((with_reducible refine' e_nin (by assumption) ?m ?_); (case m => with_unfolding_all rfl))
    | ((with_reducible refine' e_chain (op := .Lt) (op' := .Lt) op_lt op_lt ?m ?_); (case m => rfl))
    | ((with_reducible refine' e_chain (op := .Lt) (op' := .LtE) op_lt op_le ?m ?_); (case m => rfl))
    | ((with_reducible refine' e_chain (op := .LtE) (op' := .Lt) op_le op_lt ?m ?_); (case m => rfl))
    | ((with_reducible refine' e_chain (op := .LtE) (op' := .LtE) op_le op_le ?m ?_); (case m => rfl)))
  | ((with_reducible show Et _ _ _ (.Compare _ _ _ _) _); first
    | with_reducible refine' t_isN ?_
    | with_reducible refine' t_notN ?_
    | with_reducible refine' t_eq (by assumption) ?_
    | with_reducible refine' t_ne (by assumption) ?_
    | ((with_reducible refine' t_cmp (op := .Lt) op_lt ?m ?_); (case m => exact nomark _))
    | ((with_reducible refine' t_cmp (op := .LtE) op_le ?m ?_); (case m => exact nomark _))
    | ((with_reducible refine' t_cmp (op := .Gt) op_gt ?m ?_); (case m => exact nomark _))
    | ((with_reducible refine' t_cmp (op := .GtE) op_ge ?m ?_); (case m => exact nomark _))
    | ((with_reducible refine' t_in (by assumption) ?m ?_); (case m => with_unfolding_all rfl))
    | ((with_reducible refine' t_nin (by assumption) ?m ?_); (case m => with_unfolding_all rfl))
    | ((with_reducible refine' t_chain (op := .Lt) (op' := .Lt) op_lt op_lt ?m ?_); (case m => rfl))
    | ((with_reducible refine' t_chain (op := .Lt) (op' := .LtE) op_lt op_le ?m ?_); (case m => rfl))
    | ((with_reducible refine' t_chain (op := .LtE) (op' := .Lt) op_le op_lt ?m ?_); (case m => rfl))
    | ((with_reducible refine' t_chain (op := .LtE) (op' := .LtE) op_le op_le ?m ?_); (case m => rfl)))
  | ((with_reducible show Ee _ _ _ (.Subscript _ _ _) _); first
    | with_reducible refine' e_slice (by assumption) ?_
    | ((with_reducible refine' e_slice3r (by assumption) ?h ?_); (case h => intro _ _; with_unfolding_all rfl))
    | ((with_reducible refine' e_slice3c (by assumption) ?h ?_); (case h => intro _ _; with_unfolding_all rfl))
    | ((with_reducible refine' e_sub (by assumption) ?h ?_); (case h => exact fun _ _ => rfl)))
  | ((with_reducible show Ee _ _ _ (.IfExp _ _ _ _) _); first
    | with_reducible refine' e_if ?_)
  | ((with_reducible show Ee _ _ _ (.Tuple _ _ _) _); first
    | with_reducible refine' e_tup ?_)
  | ((with_reducible show O2 _ _ _ _ _ _); first
    | with_reducible refine' oa_int ?_
    | with_reducible refine' oe_int ?_
    | with_reducible refine' on_int ?_
    | with_reducible refine' oe_str ?_
    | with_reducible refine' on_str ?_
    | with_reducible refine' oe_bl ?_
    | with_reducible refine' on_bl ?_
    | with_reducible refine' o_add ?_
    | with_reducible refine' o_sub ?_
    | with_reducible refine' o_lt ?_
    | with_reducible refine' o_le ?_
    | with_reducible refine' o_gt ?_
    | with_reducible refine' o_ge ?_)
  | ((with_reducible show O1 _ _ _ _ _); first
    | with_reducible refine' o_neg ?_)
  | ((with_reducible show OL _ _ _ _ _); first
    | with_reducible refine' c_abs ?_
    | with_reducible refine' c_max2 ?_
    | with_reducible refine' c_min2 ?_
    | with_reducible refine' c_intI' ?_
    | with_reducible refine' c_intB' ?_
    | with_reducible refine' c_lenT ?_)
  | ((with_reducible show Ew _ _ _ _ _); first
    | with_reducible refine' w_and1 ?_
    | with_reducible refine' w_or1 ?_
    | with_reducible refine' w_and ?_
    | with_reducible refine' w_or ?_)
  | ((with_reducible show Et _ _ _ (.UnaryOp .Not _ _) _); first
    | with_reducible refine' t_not ?_)
  | ((with_reducible show Et _ _ _ (.BoolOp _ _ _) _); first
    | with_reducible refine' t_w ?_)
  | ((with_reducible show Et _ _ _ (.Call _ _ _ _) _); first
    | ((with_reducible refine' t_val ?h ?_); (case h => intro _; rfl)))
  | ((with_reducible show Et _ _ _ (.Name _ _) _); first
    | ((with_reducible refine' t_val ?h ?_); (case h => intro _; rfl)))
  | ((with_reducible show Ets _ _ _ _ _); first
    | with_reducible refine' ts_nil ?_
    | with_reducible refine' ts_one ?_)
  | ((with_reducible show Ea _ _ _ _ _); first
    | ((with_reducible refine' a_cons ?s ?_); (case s => rfl))
    | ((with_reducible refine' a_star (by assumption) ?s ?_); (case s => rfl))
    | with_reducible refine' a_nil ?_)
  | ((with_reducible show Eo _ _ _ _ _); first
    | with_reducible refine' eo_none ?_
    | with_reducible refine' eo_some ?_)
  | ((with_reducible show Ei _ _ _ _ _ _); first
    | ((with_reducible refine' i_range (by assumption) ?m ?g ?s ?_); (case m => assumption); (case g => rfl); (case s => rfl))
    | ((with_reducible refine' i_range2 (by assumption) ?m ?g ?s ?t ?_); (case m => assumption); (case g => rfl); (case s => rfl); (case t => rfl)))
  | ((with_reducible show Egv _ _ _ _ _ _ _); first
    | ((with_reducible refine' gv_name (by assumption) ?l ?f ?v ?_); (case l => first | exact Or.inl rfl | exact Or.inr rfl); (case f => first | exact Or.inl rfl | exact Or.inr (by assumption)); (case v => decide))
    | ((with_reducible refine' gv_pair (by assumption) ?a ?b ?c ?d ?e ?f ?g ?h ?i ?j ?_); (case a => first | exact Or.inl rfl | exact Or.inr rfl); (case b => first | exact Or.inl rfl | exact Or.inr (by assumption)); (case c => first | exact Or.inl rfl | exact Or.inr rfl); (case d => first | exact Or.inl rfl | exact Or.inr (by assumption)); (case e => rfl); (case f => rfl); (case g => rfl); (case h => rfl); (case i => decide); (case j => decide)))
  | ((with_reducible show Eg _ _ _ _ _ _); first
    | ((with_reducible refine' g_name (by assumption) ?l ?f ?_); (case l => first | exact Or.inl rfl | exact Or.inr rfl); (case f => first | exact Or.inl rfl | exact Or.inr (by assumption)))
    | ((with_reducible refine' g_pair (by assumption) ?a ?b ?c ?d ?e ?f ?g ?h ?_); (case a => first | exact Or.inl rfl | exact Or.inr rfl); (case b => first | exact Or.inl rfl | exact Or.inr (by assumption)); (case c => first | exact Or.inl rfl | exact Or.inr rfl); (case d => first | exact Or.inl rfl | exact Or.inr (by assumption)); (case e => rfl); (case f => rfl); (case g => rfl); (case h => rfl))
    | ((with_reducible refine' g_ix (by assumption) ?a ?_); (case a => intro _; rfl)))
  | ((with_reducible show Eb _ _ _ _ _); first
    | with_reducible refine' b_cons ?_
    | with_reducible refine' b_nil ?_)
  | ((with_reducible show Es _ _ _ _ _); first
    | ((with_reducible refine' s_set (by assumption) ?l ?f ?s ?_); (case l => first | exact Or.inl rfl | exact Or.inr rfl); (case f => first | exact Or.inl rfl | exact Or.inr (by assumption)); (case s => rfl))
    | with_reducible refine' s_ret ?_
    | with_reducible refine' s_retN ?_
    | with_reducible refine' s_if ?_
    | ((with_reducible refine' s_expr ?s ?_); (case s => rfl))
    | ((with_reducible refine' s_for (by assumption) ?s ?_); (case s => intro _; rfl))
    | ((with_reducible refine' s_augI (by assumption) ?a ?b ?c ?_); (case a => first | exact Or.inl rfl | exact Or.inr rfl); (case b => first | exact Or.inl rfl | exact Or.inr (by assumption)); (case c => rfl))
    | ((with_reducible refine' s_setIx (by assumption) ?a ?b ?c ?d ?_); (case a => rfl); (case b => rfl); (case c => rfl); (case d => intro _; rfl))
    | with_reducible refine' s_pass ?_
    | with_reducible refine' s_break ?_
    | with_reducible refine' s_cont ?_
    | ((with_reducible refine' s_rdg (by assumption) (by assumption) ?s ?_); (case s => rfl))
    | ((with_reducible refine' s_par2 (by assumption) ?i ?x ?y ?w ?s ?_); (case i => decide); (case x => rfl); (case y => rfl); (case w => rfl); (case s => rfl))
    | ((with_reducible refine' s_par3 (by assumption) ?i ?j ?k ?x ?y ?z ?w ?s ?_); (case i => decide); (case j => decide); (case k => decide); (case x => rfl); (case y => rfl); (case z => rfl); (case w => rfl); (case s => rfl))
    | ((with_reducible refine' s_tup2 (by assumption) ?a ?b ?c ?d ?w ?s ?e ?f ?g ?h ?i ?_); (case a => first | exact Or.inl rfl | exact Or.inr rfl); (case b => first | exact Or.inl rfl | exact Or.inr (by assumption)); (case c => first | exact Or.inl rfl | exact Or.inr rfl); (case d => first | exact Or.inl rfl | exact Or.inr (by assumption)); (case w => rfl); (case s => rfl); (case e => rfl); (case f => rfl); (case g => rfl); (case h => rfl); (case i => rfl))
    | ((with_reducible refine' s_tup3 (by assumption) ?a ?b ?c ?d ?j ?k ?w ?s ?e ?f ?l ?g ?h ?i ?_); (case a => first | exact Or.inl rfl | exact Or.inr rfl); (case b => first | exact Or.inl rfl | exact Or.inr (by assumption)); (case c => first | exact Or.inl rfl | exact Or.inr rfl); (case d => first | exact Or.inl rfl | exact Or.inr (by assumption)); (case j => first | exact Or.inl rfl | exact Or.inr rfl); (case k => first | exact Or.inl rfl | exact Or.inr (by assumption)); (case w => rfl); (case s => rfl); (case e => rfl); (case f => rfl); (case l => rfl); (case g => rfl); (case h => rfl); (case i => rfl))
    | ((with_reducible refine' s_swp (by assumption) ?w ?s ?e ?f ?g ?h ?i ?_); (case w => rfl); (case s => rfl); (case e => rfl); (case f => rfl); (case g => rfl); (case h => rfl); (case i => rfl)))
  | with_reducible refine ⟨_, Rdd.p _, ?_⟩)
local macro_rules | `(tactic| walk_at "xx") => `(tactic| repeat walk_at "x")
local macro_rules | `(tactic| walk_at "m") => `(tactic| repeat (first | assumption | exact List.mem_cons_self | refine List.mem_cons_of_mem _ ?_))
section
def phMix : Phi := fun ds M P _ => ∃ (ns : List Int) (sd : Int), ds = [.scp ns, dI sd] ∧ (0 ≤ sd ∧ sd < 2147483647) ∧ ns.length ≤ 63 ∧ ∀ a c, P (.own a) ((a, .law c) :: M)
theorem ok_mix {m : Md} {f : Addr} {fd : FuncData} {k : Nat} (F : Fun m.K "_law_mix" "_law_mix" S__law_mix f fd) (m1 : m.mg "int" = none) (m2 : m.mg "list" = none) :
    FnOk m.P m.w m.K m.mg m.base CX0 (k + 1) f fd ["_law_script", "_law_seed"] (spOf m.G phMix) := by
  refine fn_ok F sc__law_mix (fun ds M P R h => by obtain ⟨ns, sd, rfl, _⟩ := h; rfl) (fun c ds M P R hc o hl h => ?_)
  subst hc
  obtain ⟨ns, sd, rfl, hsd, hlen, p⟩ := h
  show Eb c [some (.scp ns), some (dI sd), none, none] M _ _
  refine b_cons' (by rfl) ?_
  repeat walk_at "x"
  refine i_list o ?_
  repeat walk_at "x"
  refine ⟨_, .scp ns, ?_⟩
  refine ⟨fun i Γ' M' => ∃ (st : Int) (z : Option D), Γ' = [some (.scp ns), some (dI sd), some (dI st), z] ∧ M' = M ∧ 0 ≤ st ∧ st < 2147483647, ⟨sd, none, rfl, rfl, hsd.1, hsd.2⟩, fun i Γ' M' _ _ => .scp _, fun i Γ' M' hi hj => ?_, fun Γ' M' hj => ?_⟩
  · obtain ⟨st, z, rfl, rfl, h0, h1⟩ := hj
    have hx : i < ns.length := by simpa using hi
    have hx2 : (ns.map PyData.int).getD i .none = .int (ns[i]) := by simp [hx]
    dsimp only
    rw [hx2]
    repeat walk_at "x"
    refine om_int (.inr ⟨by omega, by omega⟩) ?_
    repeat walk_at "x"
    refine o_mod (by omega) ?_
    repeat walk_at "x"
    refine o_mod (by omega) ?_
    repeat walk_at "x"
    exact ⟨_, _, rfl, rfl, by omega, by omega⟩
  · obtain ⟨st, z, rfl, rfl, h0, h1⟩ := hj
    repeat walk_at "x"
    refine e_conv ?_
    refine e_lstD ?_
    repeat walk_at "x"
    refine c_list (.inl (.scp _)) fun a => ?_
    repeat walk_at "x"
    refine ⟨by simp, fun b => ⟨_, Conv.shut (a := b) (c := a) (st := st) (ix := 0) (ns := ns) ⟨h0, h1, by omega, hlen⟩ (.refl _), p b a⟩⟩
theorem emb {x n : Int} (h : 0 < n) : 0 ≤ x % n ∧ x % n < n := ⟨Int.emod_nonneg x (by omega), Int.emod_lt_of_pos x h⟩
theorem cdivw {i j : Int} (h : 0 < j) (h2 : j ≤ 10 ^ 40) : CDivW i j := wide_div h (b := 140) (by
  have : (10 : Int) ^ 40 < ((2 ^ 140 : Nat) : Int) := by decide
  omega) (by decide) (by decide)
theorem nat_of {x n : Int} (h : 0 ≤ x) (h2 : x < n) : ∃ m : Nat, x = (m : Int) ∧ (m : Int) < n := ⟨x.toNat, by omega, by omega⟩
def phNext : Phi := fun ds M P _ => ∃ (a c : Addr) (cap : Int), ds = [.own a, dI cap] ∧ (a, Cell.law c) ∈ M ∧ (0 < cap ∧ cap ≤ 10 ^ 40) ∧ ∀ n : Nat, (n : Int) < cap → P (dI n) M
theorem ok_next {m : Md} {f : Addr} {fd : FuncData} {k : Nat} (F : Fun m.K "_law_next" "_law_next" S__law_next f fd) (m1 : m.mg "int" = none) (m2 : m.mg "max" = none) (m3 : m.mg "len" = none) :
    FnOk m.P m.w m.K m.mg m.base CX0 (k + 1) f fd ["_law_h", "_law_cap"] (spOf m.G phNext) := by
  refine fn_ok F sc__law_next (fun ds M P R h => by obtain ⟨a, c, cap, rfl, _⟩ := h; rfl) (fun c ds M P R hc o hl h => ?_)
  subst hc
  obtain ⟨a, d, cap, rfl, hm, hcap, p⟩ := h
  show Eb c [some (.own a), some (dI cap), none] M _ _
  refine sq_opn hm fun st ix ns M0 hlo hperm => ?_
  have hA : (a, Cell.lsd [dI st, .own d, dI ix]) ∈ lawC a d st ix ns M0 := List.mem_cons_self
  have hC : (d, Cell.lst (ns.map PyData.int)) ∈ lawC a d st ix ns M0 := List.mem_cons_of_mem _ List.mem_cons_self
  obtain ⟨l1, l2, l3, l4⟩ := hlo
  have hmx : 0 < (if ((ns.length : Nat) : Int) > 1 then ((ns.length : Nat) : Int) else 1) := by split <;> omega
  obtain ⟨j, hj, hj2⟩ := nat_of (emb (x := ix) hmx).1 (emb (x := ix) hmx).2
  refine b_cons' (by rfl) ?_
  walk_at "x"
  refine e_conv ?_
  repeat walk_at "x"
  refine ox_any (j := 1) hA rfl rfl ?_
  refine e_lst ?_
  repeat walk_at "x"
  refine oa_lst (.own hC) (.p _) (by simp; omega) fun b => ?_
  have hA2 := List.mem_cons_of_mem (b, Cell.lst (ns.map PyData.int ++ [.int 0])) hA
  have hC2 := List.mem_cons_of_mem (b, Cell.lst (ns.map PyData.int ++ [.int 0])) hC
  repeat walk_at "x"
  refine ox_any (j := 2) hA2 rfl rfl ?_
  repeat walk_at "x"
  refine ox_any (j := 1) hA2 rfl rfl ?_
  repeat walk_at "x"
  refine c_lenL (.own hC2) ?_
  repeat walk_at "x"
  rw [List.length_map]
  refine o_mod hmx ?_
  rw [hj]
  obtain ⟨cell, hcell⟩ : ∃ cell : Int, (ns.map PyData.int ++ [.int 0])[j]? = some (.int cell) := by
    by_cases hlt : j < ns.length
    · refine ⟨ns[j], by rw [List.getElem?_append_left (by simpa using hlt)]; simp [hlt]⟩
    · have : j = 0 ∧ ns = [] := by
        split at hj2
        · omega
        · have : ns.length = 0 := by omega
          exact ⟨by omega, List.eq_nil_of_length_eq_zero this⟩
      obtain ⟨rfl, rfl⟩ := this
      exact ⟨0, rfl⟩
  refine ox_lst (.own List.mem_cons_self) hcell (.inl rfl) ⟨_, Conv.drop, ?_⟩
  repeat walk_at "x"
  refine o_pow ⟨by decide, by decide, by decide⟩ ?_
  repeat walk_at "x"
  refine ⟨fun hz => ?_, fun hz => ?_⟩
  · have hz : (10 : Int) ^ (18 : Int).toNat ≤ cell := by simpa using hz
    have hns : ns ≠ [] := by
      rintro rfl
      have h0 : j = 0 := by
        have : (if ((([] : List Int).length : Nat) : Int) > 1 then ((([] : List Int).length : Nat) : Int) else 1) = 1 := by simp
        rw [this] at hj2
        omega
      subst h0
      simp at hcell
      subst hcell
      revert hz
      decide
    have hlp : 0 < ((ns.length : Nat) : Int) := by
      have := List.length_pos_iff.mpr hns
      omega
    repeat walk_at "x"
    refine o_fdiv (cdivw hcap.1 hcap.2) ?_
    repeat walk_at "x"
    refine ox_any (j := 1) hA rfl rfl ?_
    repeat walk_at "x"
    refine ox_any (j := 2) hA rfl rfl ?_
    repeat walk_at "x"
    refine ox_any (j := 1) hA rfl rfl ?_
    repeat walk_at "x"
    refine c_lenL (.own hC) ?_
    repeat walk_at "x"
    rw [List.length_map]
    refine o_mod hlp ?_
    obtain ⟨j2, hj3, hj4⟩ := nat_of (emb (x := ix) hlp).1 (emb (x := ix) hlp).2
    rw [hj3]
    refine ⟨d, _, j2, 1, rfl, rfl, .inl ⟨_, _, rfl, rfl, by simpa using hj4, .inl rfl, ?_⟩⟩
    rw [show List.set (lawC a d st ix ns M0) 1 (d, Cell.lst ((ns.map PyData.int).set j2 (.int (cell / cap)))) = lawC a d st ix (ns.set j2 (cell / cap)) M0 by simp [lawC, List.map_set]]
    walk_at "x"
    walk_at "x"
    refine e_conv ?_
    repeat walk_at "x"
    refine o_mod hcap.1 ?_
    obtain ⟨m, hm1, hm2⟩ := nat_of (emb (x := cell) hcap.1).1 (emb (x := cell) hcap.1).2
    rw [hm1]
    exact ⟨M, Conv.shut ⟨l1, l2, l3, by simpa using l4⟩ hperm, p m hm2⟩
  · repeat walk_at "x"
    refine ox_any (j := 0) hA rfl rfl ?_
    repeat walk_at "x"
    refine om_int (.inr ⟨by omega, by omega⟩) ?_
    repeat walk_at "x"
    refine om_int (.inr ⟨by omega, by omega⟩) ?_
    repeat walk_at "x"
    refine o_mod (by omega) ?_
    repeat walk_at "x"
    refine ⟨a, 0, 0, 0, rfl, rfl, .inr (.inl ⟨_, rfl, by simp, rfl, ?_⟩)⟩
    generalize hst : (st * 48271 + cell * 69621 + 11) % 2147483647 = st2
    have hst1 : 0 ≤ st2 ∧ st2 < 2147483647 := by omega
    show Eb c _ (lawC a d st2 ix ns M0) _ _
    have hA3 : (a, Cell.lsd [dI st2, .own d, dI ix]) ∈ lawC a d st2 ix ns M0 := List.mem_cons_self
    repeat walk_at "x"
    refine ox_any (j := 2) hA3 rfl rfl ?_
    repeat walk_at "x"
    refine ⟨a, 2, 2, 0, rfl, rfl, .inr (.inl ⟨_, rfl, by simp, rfl, ?_⟩)⟩
    show Eb c _ (lawC a d st2 (ix + 1) ns M0) _ _
    have hA4 : (a, Cell.lsd [dI st2, .own d, dI (ix + 1)]) ∈ lawC a d st2 (ix + 1) ns M0 := List.mem_cons_self
    walk_at "x"
    walk_at "x"
    refine e_conv ?_
    repeat walk_at "x"
    refine ox_any (j := 0) hA4 rfl rfl ?_
    repeat walk_at "x"
    refine o_fdiv (cdivw (by omega) (by decide)) ?_
    repeat walk_at "x"
    refine o_mod hcap.1 ?_
    obtain ⟨m, hm1, hm2⟩ := nat_of (emb (x := st2 / 7) hcap.1).1 (emb (x := st2 / 7) hcap.1).2
    rw [hm1]
    exact ⟨M, Conv.shut ⟨hst1.1, hst1.2, by omega, l4⟩ hperm, p m hm2⟩
end

section
open PySem PySem.Spec PyProof.Rows L2
open Evl (Ex)
def phPick : Phi := fun ds M P _ => ∃ (a c : Addr) (x : D) (xs : List PyData), ds = [.own a, x] ∧ (a, Cell.law c) ∈ M ∧ Rdd M x (.list xs) ∧ (0 < xs.length ∧ xs.length ≤ 1000) ∧ ∀ p ∈ xs, P (.p p) M
theorem ok_pick {m : Md} {f : Addr} {fd : FuncData} {k : Nat} (F : Fun m.K "_law_pick" "_law_pick" S__law_pick f fd) (F1 : Fd m CX0 k "_law_next" phNext) (m1 : m.mg "len" = none) (hk : 1 ≤ k) :
    FnOk m.P m.w m.K m.mg m.base CX0 (k + 1) f fd ["_law_h", "_law_things"] (spOf m.G phPick) := by
  refine fn_ok F sc__law_pick (fun ds M P R h => by obtain ⟨a, c, x, xs, rfl, _⟩ := h; rfl) (fun c ds M P R hc o hl h => ?_)
  subst hc
  obtain ⟨a, d, x, xs, rfl, hm, hr, hlen, p⟩ := h
  show Eb c [some (.own a), some x] M _ _
  refine b_cons' (by rfl) ?_
  repeat walk_at "x"
  refine c_lenL hr ?_
  repeat walk_at "x"
  refine ⟨a, d, _, rfl, hm, ⟨by omega, by omega⟩, fun n hn => ?_⟩
  have hn : n < xs.length := by omega
  exact ox_lst hr (j := n) (p := xs[n]) (by simp [hn]) (.inl rfl) (p _ (List.getElem_mem hn))
end

section
open PySem PySem.Spec PyProof.Rows L2
open Evl (Ex)
def isInt (d : PyData) (lo hi : Int) : Bool := match d with
  | .int i => decide (lo ≤ i) && decide (i ≤ hi)
  | _ => false
def phII : Phi := fun ds M P _ => ∃ d lo hi, ds = [.p d, dI lo, dI hi] ∧ P (dB (isInt d lo hi)) M
theorem ok_II {m : Md} {f : Addr} {fd : FuncData} {k : Nat} (F : Fun m.K "is_integer" "is_integer" S_is_integer f fd) (m1 : m.mg "isinstance" = none) (m2 : m.mg "int" = none) (m3 : m.mg "bool" = none) :
    FnOk m.P m.w m.K m.mg m.base CX0 (k + 1) f fd ["thing", "low", "high"] (spOf m.G phII) := by
  refine fn_ok F sc_is_integer (fun ds M P R h => by obtain ⟨d, lo, hi, rfl, _⟩ := h; rfl) (fun c ds M P R hc o hl h => ?_)
  subst hc
  obtain ⟨d, lo, hi, rfl, p⟩ := h
  show Eb c [some (.p d), some (dI lo), some (dI hi)] M _ _
  refine b_cons' (by rfl) ?_
  repeat walk_at "x"
  refine ⟨fun h => ?_, fun h => ?_⟩
  · repeat walk_at "x"
    refine ⟨fun h2 => ?_, fun h2 => ?_⟩
    · repeat walk_at "x"
      cases d with
      | int i =>
        repeat walk_at "x"
        refine ⟨fun h3 => ?_, fun h3 => ?_⟩
        · repeat walk_at "x"
          simpa [isInt, h3] using p
        · simpa [isInt, h3] using p
      | bool b => exact absurd h2 (by simp [isI, tyN])
      | _ => exact absurd h (by simp [isI, tyN])
    · cases d with
      | int i => exact absurd h2 (by simp [isI, tyN])
      | bool b => exact p
      | _ => exact p
  · cases d with
    | int i => exact absurd h (by simp [isI, tyN])
    | _ => exact p
def intA : PyData → Int
  | .int i => if i < 0 then -i else i
  | _ => 0
def isStepD : PyData → Bool
  | .tuple xs => decide (1 ≤ xs.length) && (decide (xs.length ≤ 3) && (xs.all (fun d => isInt d (-3) 3) && decide ((xs.map intA).Perm (rgI 1 (xs.length + 1)))))
  | _ => false
theorem perm_sorted {ns ms xs : List Int} (h : ns.Perm xs) (hs : ns.Pairwise (· ≤ ·)) (ht : ms.Pairwise (· ≤ ·)) : ns = ms ↔ xs.Perm ms :=
  ⟨fun e => h.symm.trans (.of_eq e), fun e => List.Perm.eq_of_pairwise (fun a b _ _ h1 h2 => Int.le_antisymm h1 h2) hs ht (h.trans e)⟩
theorem rgI_sorted {lo hi : Int} : (rgI lo hi).Pairwise (· ≤ ·) := by
  unfold rgI
  rw [List.pairwise_map]
  exact (List.pairwise_lt_range (n := (hi - lo).toNat)).imp fun h => by omega
abbrev gl3 (m : Md) : Prop := GlD m "MOST_WIDE" (dI 3)
def phIsStep : Phi := fun ds M P _ => ∃ d, ds = [.p d] ∧ P (dB (isStepD d)) M
theorem ok_isStep {m : Md} {f : Addr} {fd : FuncData} {k : Nat} (F : Fun m.K "is_step" "is_step" S_is_step f fd) (F1 : Fd m CX0 k "is_integer" phII) (g3 : gl3 m) (m1 : m.mg "isinstance" = none) (m2 : m.mg "tuple" = none) (m3 : m.mg "len" = none) (m4 : m.mg "all" = none) (m5 : m.mg "sorted" = none) (m6 : m.mg "abs" = none) (m7 : m.mg "list" = none) (m8 : m.mg "range" = none) :
    FnOk m.P m.w m.K m.mg m.base CX0 (k + 1) f fd ["thing"] (spOf m.G phIsStep) := by
  refine fn_ok F sc_is_step (fun ds M P R h => by obtain ⟨d, rfl, _⟩ := h; rfl) (fun c ds M P R hc o hl h => ?_)
  subst hc
  obtain ⟨d, rfl, p⟩ := h
  show Eb c [some (.p d), none] M _ _
  refine b_cons' (by rfl) ?_
  repeat walk_at "x"
  refine ⟨fun h => ?_, fun h => ?_⟩
  · cases d with
    | tuple xs => exact absurd h (by simp [isI, tyN])
    | _ =>
      repeat walk_at "x"
      exact p
  · obtain ⟨xs, rfl⟩ : ∃ xs, d = .tuple xs := by
      cases d with
      | tuple xs => exact ⟨xs, rfl⟩
      | _ => exact absurd h (by simp [isI, tyN])
    repeat walk_at "x"
    refine ⟨fun h1 => ?_, fun h1 => ?_⟩
    rotate_left
    · repeat walk_at "x"
      have h1 : ¬ 1 ≤ xs.length := fun z => by rw [decide_eq_false_iff_not] at h1; omega
      simpa [isStepD, h1] using p
    repeat walk_at "x"
    refine ⟨fun h2 => ?_, fun h2 => ?_⟩
    · repeat walk_at "x"
      have h2 : ¬ xs.length ≤ 3 := by simp at h2; omega
      simpa [isStepD, h2] using p
    have h1 : 1 ≤ xs.length := by simp at h1; omega
    have h2 : xs.length ≤ 3 := by simp at h2; omega
    repeat walk_at "x"
    refine e_lcM [("number", 1)] o rfl (fun _ => rfl) ?_
    refine i_tup o ?_
    repeat walk_at "x"
    refine ⟨fun i => .bool (isInt (xs.getD i .none) (-3) 3), by omega, fun _ _ => trivial, fun i acc a hi X1 o1 => ?_, fun a => ?_⟩
    · repeat walk_at "x"
      intro X2 o2
      repeat walk_at "x"
      exact ⟨_, _, _, rfl, rfl, rfl⟩
    repeat walk_at "x"
    rw [range_map_get (f := fun d => PyData.bool (isInt d (-3) 3)) (xs := xs) fun i hi => by simp [hi]]
    refine c_all (bs := xs.map fun d => isInt d (-3) 3) (.own (by simp)) ?_
    repeat walk_at "x"
    rw [show (xs.map fun d => isInt d (-3) 3).all id = xs.all fun d => isInt d (-3) 3 by simp [List.all_map]]
    refine ⟨fun h3 => ?_, fun h3 => ?_⟩
    · refine sq_conv Conv.drop ?_
      repeat walk_at "x"
      have h3 : (xs.all fun d => isInt d (-3) 3) = false := by simpa using h3
      simpa [isStepD, h3] using p
    have h3 : (xs.all fun d => isInt d (-3) 3) = true := by simpa using h3
    refine sq_conv Conv.drop ?_
    refine b_nil ?_
    refine b_cons (s_ret ?_)
    refine e_conv ?_
    repeat walk_at "x"
    refine e_lcM [("number", 1)] o rfl (fun _ => rfl) ?_
    refine i_tup o ?_
    repeat walk_at "x"
    refine ⟨fun i => .int (intA (xs.getD i .none)), by omega, fun _ _ => trivial, fun i acc a hi X1 o1 => ?_, fun a => ?_⟩
    · repeat walk_at "x"
      intro X2 o2
      have hq : isInt xs[i] (-3) 3 = true := List.all_eq_true.mp h3 _ (List.getElem_mem hi)
      obtain ⟨n, hn⟩ : ∃ n, xs.getD i .none = .int n := by
        rw [show xs.getD i .none = xs[i] by simp [hi]]
        generalize xs[i] = d at hq
        cases d with
        | int n => exact ⟨n, rfl⟩
        | _ => exact absurd hq (by simp [isInt])
      simp only [hn]
      repeat walk_at "x"
      exact ⟨rfl, rfl⟩
    repeat walk_at "x"
    rw [range_map_get (f := fun d => PyData.int (intA d)) (xs := xs) fun i hi => by simp [hi]]
    refine c_sorted (ns := xs.map intA) (by rw [List.map_map]; exact .own (by simp)) (by simp; omega) fun b ns' hp hs => ?_
    repeat walk_at "x"
    refine ⟨1, _, rfl, rfl, ⟨by omega, by omega⟩, ⟨by omega, by omega⟩, fun a3 => ?_⟩
    refine oe_c (lC iC) ns' (rgI 1 (xs.length + 1)) (.own (by walk_at "m")) (.own (by walk_at "m")) rfl ?_
    refine ⟨M, (Conv.drop.trans Conv.drop).trans Conv.drop, ?_⟩
    rw [decide_eq_decide.mpr (perm_sorted hp hs rgI_sorted)]
    have h3' := h3
    simpa [isStepD, h1, h2, h3'] using p
theorem isStepD_ok {s : List Int} (h : StepOk s) : isStepD (sD s) = true := by
  obtain ⟨h1, h2, h3⟩ := h
  have e : (s.map PyData.int).map intA = (s.map Int.natAbs).map (fun n : Nat => (n : Int)) := by
    rw [List.map_map, List.map_map]
    exact List.map_congr_left fun i _ => by simp only [Function.comp, intA]; omega
  have e2 : rgI 1 (s.length + 1) = ((List.range s.length).map (· + 1)).map (fun n : Nat => (n : Int)) := by
    unfold rgI
    rw [List.map_map, show ((s.length : Int) + 1 - 1).toNat = s.length by omega]
    exact List.map_congr_left fun i _ => by simp only [Function.comp]; omega
  have e3 : ((s.map PyData.int).all fun d => isInt d (-3) 3) = true := by
    rw [List.all_map, List.all_eq_true]
    intro i hi
    have : i.natAbs ∈ (List.range s.length).map (· + 1) := h3.mem_iff.mp (List.mem_map_of_mem hi)
    simp at this
    obtain ⟨j, hj, hj2⟩ := this
    simp [isInt]
    omega
  simp only [isStepD, List.length_map, e, e2, e3, Bool.true_and, Bool.and_eq_true, decide_eq_true_eq]
  exact ⟨h1, h2, h3.map _⟩
end

section
open PySem PySem.Spec PyProof.Rows L2
open Evl (Ex)
theorem ssd_get {ss : List (List Int)} {i : Nat} (h : i < ss.length) : (ss.map sD).getD i .none = sD ss[i] := by
  rw [getD_map h]
abbrev gl3s (m : Md) : Prop := GlD m "MOST_STEPS" (dI 3)
def phInit (C : Addr) : Phi := fun ds M P _ => ∃ x dx ss M0, ds = [.own x, .p (ssD ss)] ∧ M = (x, Cell.ins C dx []) :: M0 ∧ StepsOk ss ∧ P dN ((x, Cell.ins C dx [("readings", .p (ssD ss))]) :: M0)
theorem ok_init {m : Md} {f : Addr} {fd : FuncData} {k : Nat} (F : Fun m.K "__init__" "Script.__init__" S_Script___init__ f fd) (F1 : Fd m CX0 k "is_step" phIsStep) (S : ClsS m) (g3 : gl3s m) (m1 : m.mg "isinstance" = none) (m2 : m.mg "tuple" = none) (m3 : m.mg "len" = none) (m4 : m.mg "enumerate" = none) :
    FnOk m.P m.w m.K m.mg m.base CX0 (k + 1) f fd ["self", "steps"] (spOf m.G (phInit m.C)) := by
  refine fn_ok F sc_Script___init__ (fun ds M P R h => by obtain ⟨x, dx, ss, M0, rfl, _⟩ := h; rfl) (fun c ds M P R hc o hl h => ?_)
  subst hc
  obtain ⟨x, dx, ss, M0, rfl, rfl, hs, p⟩ := h
  show Eb c [some (.own x), some (.p (ssD ss)), none, none] ((x, Cell.ins c.m.C dx []) :: M0) _ _
  refine b_cons' (by rfl) ?_
  repeat walk_at "x"
  refine ⟨fun h => absurd h (by simp [isI, tyN]), fun _ => ?_⟩
  repeat walk_at "x"
  refine ⟨fun h => absurd h (by have := hs.1; simp; omega), fun _ => ?_⟩
  repeat walk_at "x"
  refine i_enumT o m4 rfl rfl ?_
  repeat walk_at "x"
  refine ⟨fun i Γ' M' => ∃ y z, Γ' = [some (.own x), some (.p (ssD ss)), y, z] ∧ M' = (x, Cell.ins c.m.C dx []) :: M0, ⟨_, _, rfl, rfl⟩, fun i Γ' M' _ _ => trivial, fun i Γ' M' hi hj => ?_, fun Γ' M' hj => ?_⟩
  · obtain ⟨y, z, rfl, rfl⟩ := hj
    have hi : i < ss.length := by simpa using hi
    dsimp only
    rw [ssd_get hi]
    repeat walk_at "x"
    refine ⟨_, rfl, ?_⟩
    rw [isStepD_ok (hs.2 _ (List.getElem_mem hi))]
    repeat walk_at "x"
    exact ⟨_, _, rfl, rfl⟩
  · obtain ⟨y, z, rfl, rfl⟩ := hj
    repeat walk_at "x"
    refine ⟨0, x, dx, rfl, rfl, ?_⟩
    repeat walk_at "x"
    exact p
end

section
open PySem PySem.Spec PyProof.Rows L2
open Evl (Ex)
def phProd : Phi := fun ds M P _ => ∃ ss, ds = [.p (ssD ss)] ∧ StepsOk ss ∧ P (dI (wideOf ss)) M
theorem ok_prod {m : Md} {f : Addr} {fd : FuncData} {k : Nat} (F : Fun m.K "product_of" "product_of" S_product_of f fd) (m1 : m.mg "len" = none) :
    FnOk m.P m.w m.K m.mg m.base CX0 (k + 1) f fd ["steps"] (spOf m.G phProd) := by
  refine fn_ok F sc_product_of (fun ds M P R h => by obtain ⟨ss, rfl, _⟩ := h; rfl) (fun c ds M P R hc o hl h => ?_)
  subst hc
  obtain ⟨ss, rfl, hs, p⟩ := h
  show Eb c [some (.p (ssD ss)), none, none] M _ _
  refine b_cons' (by rfl) ?_
  repeat walk_at "x"
  refine i_tup o ?_
  repeat walk_at "x"
  refine ⟨fun i Γ' M' => ∃ z, Γ' = [some (.p (ssD ss)), some (dI (wideOf (ss.take i))), z] ∧ M' = M, ⟨none, rfl, rfl⟩, fun i Γ' M' _ _ => trivial, fun i Γ' M' hi hj => ?_, fun Γ' M' hj => ?_⟩
  · obtain ⟨z, rfl, rfl⟩ := hj
    have hi : i < ss.length := by simpa using hi
    dsimp only
    rw [ssd_get hi]
    repeat walk_at "x"
    obtain ⟨h1, h2⟩ := wide_pos hs.2 i (by omega)
    have h3 : 3 ^ i ≤ 3 ^ 3 := Nat.pow_le_pow_right (by decide) (by have := hs.1; omega)
    obtain ⟨h5, h6, _⟩ := hs.2 ss[i] (List.getElem_mem _)
    refine om_int (.inr ⟨by omega, by simp; omega⟩) ?_
    rw [List.length_map, show ((wideOf (ss.take i) : Nat) : Int) * (ss[i].length : Int) = ((wideOf (ss.take (i + 1)) : Nat) : Int) by rw [wide_take hi]; simp]
    repeat walk_at "x"
    rfl
  · obtain ⟨z, rfl, rfl⟩ := hj
    rw [List.length_map, List.take_length]
    repeat walk_at "x"
    exact p
def phWide : Phi := fun ds M P _ => ∃ ss, ds = [.scr (ssD ss)] ∧ StepsOk ss ∧ P (dI (wideOf ss)) M
theorem ok_wideP {m : Md} {f : Addr} {fd : FuncData} {k : Nat} (F : Fun m.K "wide" "Script.wide" S_Script_wide f fd) (F1 : Fd m CX0 k "product_of" phProd) (S : ClsS m) :
    FnOk m.P m.w m.K m.mg m.base CX0 (k + 1) f fd ["self"] (spOf m.G phWide) := by
  refine fn_ok F sc_Script_wide (fun ds M P R h => by obtain ⟨ss, rfl, _⟩ := h; rfl) (fun c ds M P R hc o hl h => ?_)
  subst hc
  obtain ⟨ss, rfl, hs, p⟩ := h
  show Eb c [some (.scr (ssD ss))] M _ _
  refine b_cons' (by rfl) ?_
  repeat walk_at "x"
  exact ⟨ss, rfl, hs, p⟩
end

section
open PySem PySem.Spec PyProof.Rows L2
open Evl (Ex)
theorem sz_int {a w n : Nat} (ha : a < w) : ((n : Int) - a + w - 1) / w = ((sz a w n : Nat) : Int) := by
  unfold sz
  rw [Int.natCast_ediv]
  by_cases h : a ≤ n
  · congr 1; omega
  · rw [Int.ediv_eq_zero_of_lt (by omega) (by omega)]
    rw [show n - a + w - 1 = w - 1 by omega, Int.ediv_eq_zero_of_lt (by omega) (by omega)]
def phSize : Phi := fun ds M P _ => ∃ w n a : Nat, ds = [dI w, dI n, dI a] ∧ a < w ∧ w ≤ 1000 ∧ P (dI (sz a w n)) M
theorem ok_size {m : Md} {f : Addr} {fd : FuncData} {k : Nat} (F : Fun m.K "column_size" "column_size" S_column_size f fd) :
    FnOk m.P m.w m.K m.mg m.base CX0 (k + 1) f fd ["wide", "length", "column"] (spOf m.G phSize) := by
  refine fn_ok F sc_column_size (fun ds M P R h => by obtain ⟨w, n, a, rfl, _⟩ := h; rfl) (fun c ds M P R hc o hl h => ?_)
  subst hc
  obtain ⟨w, n, a, rfl, ha, hw, p⟩ := h
  show Eb c [some (dI w), some (dI n), some (dI a)] M _ _
  refine b_cons' (by rfl) ?_
  repeat walk_at "x"
  refine o_fdiv (cdivw (by omega) (by omega)) ?_
  rw [sz_int ha]
  exact p
end

section
open PySem PySem.Spec PyProof.Rows L2
open Evl (Ex)
def phPlaceBy : Phi := fun ds M P _ => ∃ (s : List Int) (n m : Nat), ds = [.p (sD s), dI n, dI m] ∧ OrdOk s ∧ s.length ≤ 100 ∧ m < n ∧ P (dI (plcBy s n m)) M
theorem ok_placeBy {m : Md} {f : Addr} {fd : FuncData} {k : Nat} (F : Fun m.K "place_by" "place_by" S_place_by f fd) (F1 : Fd m CX0 k "column_size" phSize) (m1 : m.mg "len" = none) (m2 : m.mg "abs" = none) :
    FnOk m.P m.w m.K m.mg m.base CX0 (k + 1) f fd ["step", "length", "sign"] (spOf m.G phPlaceBy) := by
  refine fn_ok F sc_place_by (fun ds M P R h => by obtain ⟨s, n, i, rfl, _⟩ := h; rfl) (fun c ds M P R hc o hl h => ?_)
  subst hc
  obtain ⟨s, n, i, rfl, hs, hl1, hi, p⟩ := h
  have hw := hs.1
  show Eb c [some (.p (sD s)), some (dI n), some (dI i), none, none, none, none, none, none] M _ _
  refine b_cons' (by rfl) ?_
  repeat walk_at "x"
  rw [List.length_map]
  refine o_mod (by omega) ?_
  repeat walk_at "x"
  refine o_fdiv (cdivw (by omega) (by omega)) ?_
  repeat walk_at "x"
  rw [show (i : Int) % (s.length : Int) = ((i % s.length : Nat) : Int) from (Int.natCast_emod ..).symm, show (i : Int) / (s.length : Int) = ((i / s.length : Nat) : Int) from (Int.natCast_ediv ..).symm]
  refine ⟨_, _, _, rfl, ?_⟩
  show Eb c [some (.p (sD s)), some (dI n), some (dI i), some (dI s.length), some (dI (i % s.length : Nat)), some (dI (i / s.length : Nat)), some (dI 0), none, none] M _ _
  repeat walk_at "x"
  refine i_tup o ?_
  repeat walk_at "x"
  rw [List.length_map]
  refine ⟨fun j Γ' M' => ∃ (b : Nat) (y z : Option D), Γ' = [some (.p (sD s)), some (dI n), some (dI i), some (dI s.length), some (dI (i % s.length : Nat)), some (dI (i / s.length : Nat)), some (dI b), y, z] ∧ M' = M ∧ plcIn s.length n i (s.drop j) b = plcBy s n i, ⟨0, _, _, rfl, rfl, rfl⟩, fun _ _ _ _ _ => trivial, fun j Γ' M' hj hJ => ?_, fun Γ' M' hJ => ?_⟩
  · obtain ⟨b, y, z, rfl, rfl, hb⟩ := hJ
    have hx := ord_pos hs (List.getElem_mem hj)
    dsimp only
    rw [getD_map hj]
    rw [List.drop_eq_getElem_cons hj, plcIn] at hb
    generalize s[j] = x at hb hx
    have ha : (if x < 0 then -x else x) - 1 = ((x.natAbs - 1 : Nat) : Int) := by omega
    repeat walk_at "x"
    rw [ha]
    refine ⟨s.length, n, x.natAbs - 1, rfl, by omega, by omega, ?_⟩
    repeat walk_at "x"
    rw [ha]
    refine ⟨fun hz => ?_, fun hz => ?_⟩
    · have hz : x.natAbs - 1 = i % s.length := Int.natCast_inj.mp (of_decide_eq_true hz)
      rw [if_pos hz] at hb
      have hk : i / s.length < sz (x.natAbs - 1) s.length n := (lt_sz hw).mpr (by have := Nat.mod_add_div i s.length; omega)
      repeat walk_at "x"
      refine ⟨fun hq => ?_, fun hq => ?_⟩
      · have hq : 0 < x := by simpa using hq
        rw [if_pos hq] at hb
        repeat walk_at "x"
        rw [← Int.natCast_add, hb]; exact p
      · have hq : ¬ 0 < x := by simpa using hq
        rw [if_neg hq] at hb
        repeat walk_at "x"
        rw [show (b : Int) + ((sz (x.natAbs - 1) s.length n : Nat) - 1 - ((i / s.length : Nat) : Int)) = ((b + (sz (x.natAbs - 1) s.length n - 1 - i / s.length) : Nat) : Int) by
          generalize i / s.length = q at *; omega, hb]
        exact p
    · have hz : x.natAbs - 1 ≠ i % s.length := fun e => of_decide_eq_false hz (by rw [e])
      rw [if_neg hz] at hb
      repeat walk_at "x"
      rw [← Int.natCast_add]
      exact ⟨_, _, _, rfl, rfl, hb⟩
  · obtain ⟨b, y, z, rfl, rfl, hb⟩ := hJ
    rw [List.drop_length, plcIn] at hb
    repeat walk_at "x"
    rw [hb]; exact p
end

section
open PySem PySem.Spec PyProof.Rows L2
open Evl (Ex)
def phWhenceBy : Phi := fun ds M P _ => ∃ (s : List Int) (n m : Nat), ds = [.p (sD s), dI n, dI m] ∧ OrdOk s ∧ s.length ≤ 100 ∧ n ≤ 10 ^ 31 ∧ m < n ∧ P (dI (whcBy s n m)) M
theorem ok_whenceBy {m : Md} {f : Addr} {fd : FuncData} {k : Nat} (F : Fun m.K "whence_by" "whence_by" S_whence_by f fd) (F1 : Fd m CX0 k "column_size" phSize) (m1 : m.mg "len" = none) (m2 : m.mg "abs" = none) :
    FnOk m.P m.w m.K m.mg m.base CX0 (k + 1) f fd ["step", "length", "place"] (spOf m.G phWhenceBy) := by
  refine fn_ok F sc_whence_by (fun ds M P R h => by obtain ⟨s, n, i, rfl, _⟩ := h; rfl) (fun c ds M P R hc o hl h => ?_)
  subst hc
  obtain ⟨s, n, i, rfl, hs, hl1, hn, hi, p⟩ := h
  have hw := hs.1
  show Eb c [some (.p (sD s)), some (dI n), some (dI i), none, none, none, none] M _ _
  refine b_cons' (by rfl) ?_
  repeat walk_at "x"
  refine i_tup o ?_
  repeat walk_at "x"
  rw [List.length_map]
  refine ⟨fun j Γ' M' => ∃ (b : Nat) (y z u : Option D), Γ' = [some (.p (sD s)), some (dI n), some (dI b), some (dI s.length), y, z, u] ∧ M' = M ∧ b < n ∧ whcIn s.length n (s.drop j) b = whcBy s n i, ⟨i, _, _, _, rfl, rfl, hi, rfl⟩, fun _ _ _ _ _ => trivial, fun j Γ' M' hj hJ => ?_, fun Γ' M' hJ => ?_⟩
  · obtain ⟨b, y, z, u, rfl, rfl, hbn, hb⟩ := hJ
    have hx := ord_pos hs (List.getElem_mem hj)
    dsimp only
    rw [getD_map hj]
    rw [List.drop_eq_getElem_cons hj, whcIn] at hb
    generalize s[j] = x at hb hx
    have ha : (if x < 0 then -x else x) - 1 = ((x.natAbs - 1 : Nat) : Int) := by omega
    repeat walk_at "x"
    rw [ha]
    refine ⟨s.length, n, x.natAbs - 1, rfl, by omega, by omega, ?_⟩
    repeat walk_at "x"
    refine ⟨fun hz => ?_, fun hz => ?_⟩
    · have hz : b < sz (x.natAbs - 1) s.length n := by simpa using hz
      rw [if_pos hz] at hb
      repeat walk_at "x"
      refine ⟨fun hq => ?_, fun hq => ?_⟩
      · have hq : 0 < x := by simpa using hq
        rw [if_pos hq] at hb
        repeat walk_at "x"
        refine om_int (.inr ⟨by omega, by omega⟩) ?_
        repeat walk_at "x"
        rw [show (b : Int) * (s.length : Int) + (if x < 0 then -x else x) - 1 = ((b * s.length + (x.natAbs - 1) : Nat) : Int) by
          rw [Int.natCast_add, Int.natCast_mul]; omega, hb]
        exact p
      · have hq : ¬ 0 < x := by simpa using hq
        rw [if_neg hq] at hb
        repeat walk_at "x"
        rw [show ((sz (x.natAbs - 1) s.length n : Nat) : Int) - 1 - (b : Int) = ((sz (x.natAbs - 1) s.length n - 1 - b : Nat) : Int) by omega]
        refine om_int (.inr ⟨by omega, by omega⟩) ?_
        repeat walk_at "x"
        rw [show ((sz (x.natAbs - 1) s.length n - 1 - b : Nat) : Int) * (s.length : Int) + (if x < 0 then -x else x) - 1 = (((sz (x.natAbs - 1) s.length n - 1 - b) * s.length + (x.natAbs - 1) : Nat) : Int) by
          rw [Int.natCast_add, Int.natCast_mul]; omega, hb]
        exact p
    · have hz : ¬ b < sz (x.natAbs - 1) s.length n := by simpa using hz
      rw [if_neg hz] at hb
      repeat walk_at "x"
      rw [show (b : Int) - ((sz (x.natAbs - 1) s.length n : Nat) : Int) = ((b - sz (x.natAbs - 1) s.length n : Nat) : Int) by omega]
      exact ⟨_, _, _, _, rfl, rfl, by omega, hb⟩
  · obtain ⟨b, y, z, u, rfl, rfl, hbn, hb⟩ := hJ
    rw [List.drop_length, whcIn] at hb
    repeat walk_at "x"
    rw [hb]; exact p
end

section
open PySem PySem.Spec PyProof.Rows L2
open Evl (Ex)
def phChkL : Phi := fun ds M P _ => ∃ n : Nat, ds = [dI n] ∧ n ≤ TOP ∧ P dN M
theorem ok_chkL {m : Md} {f : Addr} {fd : FuncData} {k : Nat} (F : Fun m.K "check_length" "check_length" S_check_length f fd) (F1 : Fd m CX0 k "is_integer" phII) (g1 : GlD m "MOST_LENGTH" (dI 1000000000000000000000000000000)) :
    FnOk m.P m.w m.K m.mg m.base CX0 (k + 1) f fd ["length"] (spOf m.G phChkL) := by
  refine fn_ok F sc_check_length (fun ds M P R h => by obtain ⟨n, rfl, _⟩ := h; rfl) (fun c ds M P R hc o hl h => ?_)
  subst hc
  obtain ⟨n, rfl, hn, p⟩ := h
  show Eb c [some (dI n)] M _ _
  refine b_cons' (by rfl) ?_
  repeat walk_at "x"
  refine ⟨_, 0, _, rfl, ?_⟩
  unfold TOP at hn
  rw [show isInt (.int (n : Int)) 0 1000000000000000000000000000000 = true by simp only [isInt, Bool.and_eq_true, decide_eq_true_eq]; omega]
  repeat walk_at "x"
  exact p
end

section
open PySem PySem.Spec PyProof.Rows L2
open Evl (Ex)
def phChkS : Phi := fun ds M P _ => ∃ n i : Nat, ds = [dI n, dI i] ∧ n ≤ TOP ∧ i < n ∧ P dN M
theorem ok_chkS {m : Md} {f : Addr} {fd : FuncData} {k : Nat} (F : Fun m.K "check_sign" "check_sign" S_check_sign f fd) (F1 : Fd m CX0 k "is_integer" phII) (F2 : Fd m CX0 k "check_length" phChkL) :
    FnOk m.P m.w m.K m.mg m.base CX0 (k + 1) f fd ["length", "sign"] (spOf m.G phChkS) := by
  refine fn_ok F sc_check_sign (fun ds M P R h => by obtain ⟨n, i, rfl, _⟩ := h; rfl) (fun c ds M P R hc o hl h => ?_)
  subst hc
  obtain ⟨n, i, rfl, hn, hi, p⟩ := h
  show Eb c [some (dI n), some (dI i)] M _ _
  refine b_cons' (by rfl) ?_
  repeat walk_at "x"
  refine ⟨n, rfl, hn, ?_⟩
  repeat walk_at "x"
  refine ⟨_, 0, _, rfl, ?_⟩
  rw [show isInt (.int (i : Int)) 0 ((n : Int) - 1) = true by simp only [isInt, Bool.and_eq_true, decide_eq_true_eq]; omega]
  repeat walk_at "x"
  exact p
def phPlaceIn : Phi := fun ds M P _ => ∃ (ss : List (List Int)) (n i : Nat), ds = [.p (ssD ss), dI n, dI i] ∧ StepsOk ss ∧ i < n ∧ P (dI (plcS ss n i)) M
theorem ok_placeIn {m : Md} {f : Addr} {fd : FuncData} {k : Nat} (F : Fun m.K "place_in" "place_in" S_place_in f fd) (F1 : Fd m CX0 k "place_by" phPlaceBy) :
    FnOk m.P m.w m.K m.mg m.base CX0 (k + 1) f fd ["steps", "length", "sign"] (spOf m.G phPlaceIn) := by
  refine fn_ok F sc_place_in (fun ds M P R h => by obtain ⟨ss, n, i, rfl, _⟩ := h; rfl) (fun c ds M P R hc o hl h => ?_)
  subst hc
  obtain ⟨ss, n, i, rfl, hs, hi, p⟩ := h
  show Eb c [some (.p (ssD ss)), some (dI n), some (dI i), none] M _ _
  refine b_cons' (by rfl) ?_
  repeat walk_at "x"
  refine i_tup o ?_
  repeat walk_at "x"
  rw [List.length_map]
  refine ⟨fun j Γ' M' => ∃ z, Γ' = [some (.p (ssD ss)), some (dI n), some (dI (plcS (ss.take j) n i)), z] ∧ M' = M, ⟨none, rfl, rfl⟩, fun _ _ _ _ _ => trivial, fun j Γ' M' hj hJ => ?_, fun Γ' M' hJ => ?_⟩
  · obtain ⟨z, rfl, rfl⟩ := hJ
    dsimp only
    rw [ssd_get hj]
    have h1 := hs.2 ss[j] (List.getElem_mem hj)
    have hlt : plcS (ss.take j) n i < n := plcS_lt (fun s h => hs.ords s (List.mem_of_mem_take h)) hi
    repeat walk_at "x"
    refine ⟨ss[j], n, _, rfl, h1.ord, by have := h1.2.1; omega, hlt, ?_⟩
    repeat walk_at "x"
    refine ⟨some (.p (sD ss[j])), ?_, rfl⟩
    rw [List.take_succ_eq_append_getElem hj]
    unfold plcS
    rw [List.foldl_append]
    rfl
  · obtain ⟨z, rfl, rfl⟩ := hJ
    rw [List.take_length]
    repeat walk_at "x"
    exact p
def phPlace : Phi := fun ds M P _ => ∃ (ss : List (List Int)) (n i : Nat), ds = [.scr (ssD ss), dI n, dI i] ∧ StepsOk ss ∧ n ≤ TOP ∧ i < n ∧ P (dI (plcS ss n i)) M
theorem ok_place {m : Md} {f : Addr} {fd : FuncData} {k : Nat} (F : Fun m.K "place" "place" S_place f fd) (F1 : Fd m CX0 k "check_sign" phChkS) (F2 : Fd m CX0 k "place_in" phPlaceIn) (S : ClsS m) :
    FnOk m.P m.w m.K m.mg m.base CX0 (k + 1) f fd ["script", "length", "sign"] (spOf m.G phPlace) := by
  refine fn_ok F sc_place (fun ds M P R h => by obtain ⟨ss, n, i, rfl, _⟩ := h; rfl) (fun c ds M P R hc o hl h => ?_)
  subst hc
  obtain ⟨ss, n, i, rfl, hs, hn, hi, p⟩ := h
  show Eb c [some (.scr (ssD ss)), some (dI n), some (dI i)] M _ _
  refine b_cons' (by rfl) ?_
  repeat walk_at "x"
  refine ⟨n, i, rfl, hn, hi, ?_⟩
  repeat walk_at "x"
  exact ⟨ss, n, i, rfl, hs, hi, p⟩
end

section
open PySem PySem.Spec PyProof.Rows L2
open Evl (Ex)
def phWhence : Phi := fun ds M P _ => ∃ (ss : List (List Int)) (n i : Nat), ds = [.scr (ssD ss), dI n, dI i] ∧ StepsOk ss ∧ n ≤ TOP ∧ i < n ∧ P (dI (whcS ss n i)) M
theorem ok_whence {m : Md} {f : Addr} {fd : FuncData} {k : Nat} (F : Fun m.K "whence" "whence" S_whence f fd) (F1 : Fd m CX0 k "check_sign" phChkS) (F2 : Fd m CX0 k "whence_by" phWhenceBy) (S : ClsS m) :
    FnOk m.P m.w m.K m.mg m.base CX0 (k + 1) f fd ["script", "length", "place"] (spOf m.G phWhence) := by
  refine fn_ok F sc_whence (fun ds M P R h => by obtain ⟨ss, n, i, rfl, _⟩ := h; rfl) (fun c ds M P R hc o hl h => ?_)
  subst hc
  obtain ⟨ss, n, i, rfl, hs, hn, hi, p⟩ := h
  have hn2 : n ≤ 10 ^ 31 := Nat.le_trans hn (by decide)
  show Eb c [some (.scr (ssD ss)), some (dI n), some (dI i), none] M _ _
  refine b_cons' (by rfl) ?_
  repeat walk_at "x"
  refine ⟨n, i, rfl, hn, hi, ?_⟩
  repeat walk_at "x"
  refine i_tup o ?_
  repeat walk_at "x"
  refine s3_revT (by rw [List.length_map]; have := hs.1; omega) ?_
  rw [← List.map_reverse]
  repeat walk_at "x"
  rw [List.length_map]
  have hq : ∀ s ∈ ss.reverse, StepOk s := fun s h => hs.2 s (List.mem_reverse.mp h)
  refine ⟨fun j Γ' M' => ∃ (b : Nat) (z : Option D), Γ' = [some (.scr (ssD ss)), some (dI n), some (dI b), z] ∧ M' = M ∧ b < n ∧ b = (ss.reverse.take j).foldl (fun i s => whcBy s n i) i, ⟨i, none, rfl, rfl, hi, rfl⟩, fun _ _ _ _ _ => trivial, fun j Γ' M' hj hJ => ?_, fun Γ' M' hJ => ?_⟩
  · obtain ⟨b, z, rfl, rfl, hb, hbe⟩ := hJ
    dsimp only
    rw [ssd_get hj]
    have h1 := hq _ (List.getElem_mem hj)
    repeat walk_at "x"
    refine ⟨ss.reverse[j], n, b, rfl, h1.ord, by have := h1.2.1; omega, hn2, hb, ?_⟩
    repeat walk_at "x"
    refine ⟨_, _, rfl, rfl, whcBy_lt h1.ord hb, ?_⟩
    rw [List.take_succ_eq_append_getElem hj, List.foldl_append, ← hbe]
    rfl
  · obtain ⟨b, z, rfl, rfl, hb, hbe⟩ := hJ
    rw [List.take_length] at hbe
    have : b = whcS ss n i := by rw [hbe]; unfold whcS; rw [List.foldl_reverse]
    subst this
    repeat walk_at "x"
    exact p
end

section
open PySem PySem.Spec PyProof.Rows L2
open Evl (Ex)
def blD (b : Blk) : PyData := .tuple [.int b.1, .int (if b.2 then 1 else -1)]
def cz : List Addr → List (List PyData) → Mem
  | a :: as, x :: xs => (a, .lst x) :: cz as xs
  | _, _ => []
def kz : Nat → List Addr → List (Key × D)
  | _, [] => []
  | i, a :: as => (.inl (i : Int), .own a) :: kz (i + 1) as
theorem cz_get : ∀ {as : List Addr} {xs : List (List PyData)} {M : Mem} {i : Nat} {a : Addr} {x : List PyData}, as[i]? = some a → xs[i]? = some x → (cz as xs ++ M)[i]? = some (a, .lst x)
  | [], _, _, _, _, _, h, _ => by simp at h
  | _ :: _, [], _, _, _, _, _, h => by simp at h
  | a :: as, x :: xs, M, 0, _, _, h, h' => by simp at h h'; subst h h'; rfl
  | a :: as, x :: xs, M, i + 1, _, _, h, h' => by
    show (cz as xs ++ M)[i]? = _
    exact cz_get (by simpa using h) (by simpa using h')
theorem cz_set : ∀ {as : List Addr} {xs : List (List PyData)} {M : Mem} {i : Nat} {a : Addr} {y : List PyData}, as[i]? = some a → i < xs.length → (cz as xs ++ M).set i (a, .lst y) = cz as (xs.set i y) ++ M
  | [], _, _, _, _, _, h, _ => by simp at h
  | _ :: _, [], _, _, _, _, _, h => by simp at h
  | a :: as, x :: xs, M, 0, _, _, h, h' => by simp at h; subst h; rfl
  | a :: as, x :: xs, M, i + 1, _, y, h, h' => by
    show _ :: (cz as xs ++ M).set i _ = _ :: (cz as (xs.set i y) ++ M)
    rw [cz_set (by simpa using h) (by simpa using h')]
theorem cz_snoc {b : Addr} {y : List PyData} : ∀ {as : List Addr} {xs : List (List PyData)}, as.length = xs.length → cz (as ++ [b]) (xs ++ [y]) = cz as xs ++ [(b, .lst y)]
  | [], [], _ => rfl
  | [], _ :: _, h => by simp at h
  | _ :: _, [], h => by simp at h
  | a :: as, x :: xs, h => by
    show _ :: cz (as ++ [b]) (xs ++ [y]) = _ :: (cz as xs ++ _)
    rw [cz_snoc (by simpa using h)]
theorem kz_lk : ∀ {as : List Addr} {i j : Nat}, lkD (kz i as) (.inl ((i + j : Nat) : Int)) = as[j]?.map D.own
  | [], _, _ => rfl
  | a :: as, i, 0 => by simp [lkD, kz]
  | a :: as, i, j + 1 => by
    have ih := kz_lk (as := as) (i := i + 1) (j := j)
    unfold lkD at ih ⊢
    rw [kz, List.find?_cons]
    rw [show decide ((Sum.inl (i : Int) : Key) = Sum.inl ((i + (j + 1) : Nat) : Int)) = false by simp; omega]
    simp only [List.getElem?_cons_succ]
    rw [← ih, show i + (j + 1) = i + 1 + j by omega]
theorem kz_lk0 {as : List Addr} {j : Nat} {a : Addr} (h : as[j]? = some a) : lkD (kz 0 as) (.inl (j : Int)) = some (.own a) := by
  have := kz_lk (as := as) (i := 0) (j := j)
  rw [Nat.zero_add] at this
  rw [this, h]; rfl
theorem kz_len : ∀ {as : List Addr} {i : Nat}, (kz i as).length = as.length
  | [], _ => rfl
  | _ :: as, i => congrArg (· + 1) kz_len
theorem kz_snoc {b : Addr} : ∀ {as : List Addr} {i : Nat}, kz i (as ++ [b]) = kz i as ++ [(.inl ((i + as.length : Nat) : Int), .own b)]
  | [], i => rfl
  | a :: as, i => by
    show _ :: kz (i + 1) (as ++ [b]) = _ :: (kz (i + 1) as ++ _)
    rw [kz_snoc, show i + 1 + as.length = i + (a :: as).length by simp; omega]
theorem kz_put {b : Addr} {as : List Addr} : putD (kz 0 as) (.inl (as.length : Int)) (.own b) = kz 0 (as ++ [b]) := by
  have h : ∀ {as : List Addr} {i n : Nat}, i + as.length ≤ n → ((kz i as).any fun kv => decide (kv.1 = (Sum.inl (n : Int) : Key))) = false := by
    intro as
    induction as with
    | nil => intro _ _ _; rfl
    | cons a as ih =>
      intro i n hn
      simp only [List.length_cons] at hn
      rw [kz, List.any_cons, ih (by omega), Bool.or_false]
      simp; omega
  unfold putD
  rw [h (by omega), if_neg Bool.false_ne_true, kz_snoc, Nat.zero_add]
theorem map_range_set {α : Type} {m j : Nat} {f g : Nat → α} (hj : j < m) (hg : ∀ i, i ≠ j → g i = f i) : ((List.range m).map f).set j (g j) = (List.range m).map g := by
  apply List.ext_getElem
  · simp
  · intro i h1 h2
    simp only [List.length_map, List.length_range] at h2
    rw [List.getElem_set]
    by_cases e : j = i
    · subst e; simp
    · rw [if_neg e]; simp [hg i (fun z => e z.symm)]
def begS (w n : Nat) (bs : List Blk) : Nat := (bs.map fun x => sz x.1 w n).sum
theorem begS_snoc {w n : Nat} {bs : List Blk} {x : Blk} : begS w n (bs ++ [x]) = begS w n bs + sz x.1 w n := by simp [begS]
theorem subs_snoc {w m n c : Nat} : ∀ (bs : List Blk) (b : Nat) (x : Blk), subs w m n c (bs ++ [x]) b = subs w m n c bs b ++ [(x.1 + w * turnOf x.2 c (b + begS w n bs) (sz x.1 w n) m, x.2)]
  | [], b, (a, up) => by simp [subs, begS]
  | (a, up) :: bs, b, x => by
    show _ :: subs w m n c (bs ++ [x]) (b + sz a w n) = _ :: (subs w m n c bs (b + sz a w n) ++ _)
    rw [subs_snoc bs, show b + sz a w n + begS w n bs = b + begS w n ((a, up) :: bs) by simp [begS]; omega]
theorem turn_int {up : Bool} {c b z m : Nat} (hm : 0 < m) : (if up then (c : Int) - b else (b : Int) + z - 1 - c) % (m : Int) = (turnOf up c b z m : Int) := by
  unfold turnOf
  rw [Int.toNat_of_nonneg (Int.emod_nonneg _ (by omega))]
abbrev bsD (bs : List Blk) : PyData := .tuple (bs.map blD)
def phNB : Phi := fun ds M P _ => ∃ (bs : List Blk) (w : Nat) (s : List Int) (n : Nat), ds = [.p (bsD bs), dI w, .p (sD s), dI n] ∧ StepOk s ∧ 0 < w ∧ w ≤ 27 ∧ bs.length = w ∧ (∀ x ∈ bs, x.1 < w) ∧ P (.p (bsD (nextB w s n bs))) M
theorem ok_nextBlocks {m : Md} {f : Addr} {fd : FuncData} {k : Nat} (F : Fun m.K "next_blocks" "next_blocks" S_next_blocks f fd) (F1 : Fd m CX0 k "column_size" phSize) (m1 : m.mg "len" = none) (m2 : m.mg "range" = none) (m3 : m.mg "abs" = none) (m4 : m.mg "tuple" = none) :
    FnOk m.P m.w m.K m.mg m.base CX0 (k + 1) f fd A_next_blocks (spOf m.G phNB) := by
  refine fn_ok F sc_next_blocks (fun ds M P R h => by obtain ⟨bs, w, s, n, rfl, _⟩ := h; rfl) (fun c ds M P R hc o hl h => ?_)
  subst hc
  obtain ⟨bs, w, s, n, rfl, hs, hw0, hw, hbl, hb, p⟩ := h
  have hm1 := hs.1
  have hm3 := hs.2.1
  show Eb c [some (.p (bsD bs)), some (dI w), some (.p (sD s)), some (dI n), none, none, none, none, none, none, none, none, none, none, none] M _ _
  refine b_cons' (by rfl) ?_
  repeat walk_at "x"
  refine e_dc [("column", 7)] o rfl (fun _ => rfl) ?_
  repeat walk_at "x"
  refine ⟨by rw [List.length_map]; omega, ?_⟩
  rw [Int.toNat_natCast, List.length_map]
  refine ⟨fun i kvs M' => ∃ as : List Addr, as.length = i ∧ kvs = kz 0 as ∧ M' = cz as (List.replicate i []) ++ M, ⟨[], rfl, rfl, rfl⟩, fun _ _ _ _ _ _ => trivial, fun i kvs M' a hi hj X1 o1 => ?_, fun kvs M' a hj => ?_⟩
  · obtain ⟨as, rfl, rfl, rfl⟩ := hj
    repeat walk_at "x"
    intro X2 o2
    repeat walk_at "x"
    intro X3 o3
    repeat walk_at "x"
    intro X4 o4
    refine e_lstO ?_
    repeat walk_at "x"
    intro b
    refine ⟨.inl (as.length : Int), 1, cz (as ++ [b]) (List.replicate (as.length + 1) []) ++ M, rfl, rfl, by rw [kz_len]; omega, ?_, as ++ [b], by simp, kz_put, rfl⟩
    rw [List.replicate_succ', cz_snoc (by simp), List.append_assoc]
    refine Conv.perm ?_
    refine (List.Perm.swap _ _ _).trans (.cons _ ?_)
    exact List.perm_middle.symm
  · obtain ⟨as, has, rfl, rfl⟩ := hj
    repeat walk_at "x"
    refine ⟨_, _, _, rfl, ?_⟩
    show Eb c [some (.p (bsD bs)), some (dI w), some (.p (sD s)), some (dI n), some (dI s.length), some (dI 0), some (.own a), none, none, none, none, none, none, none, none] _ _ _
    rw [show List.replicate s.length ([] : List PyData) = (List.range s.length).map fun c => (subs w s.length n c (bs.take 0) 0).map blD by
      rw [List.take_zero]; simp [subs, List.map_const']]
    repeat walk_at "x"
    refine i_tup o ?_
    repeat walk_at "x"
    rw [List.length_map]
    refine ⟨fun i Γ' M' => ∃ y1 y2 y3 y4 y5, Γ' = [some (.p (bsD bs)), some (dI w), some (.p (sD s)), some (dI n), some (dI s.length), some (dI (begS w n (bs.take i))), some (.own a), y1, y2, y3, y4, y5, none, none, none] ∧
      M' = (a, Cell.dic (kz 0 as)) :: (cz as ((List.range s.length).map fun c => (subs w s.length n c (bs.take i) 0).map blD) ++ M), ⟨_, _, _, _, _, rfl, rfl⟩, fun _ _ _ _ _ => trivial, fun i Γ' M' hi hj => ?_, fun Γ' M' hj => ?_⟩
    · obtain ⟨y1, y2, y3, y4, y5, rfl, rfl⟩ := hj
      dsimp only
      rw [getD_map hi]
      have hxl := hb _ (List.getElem_mem hi)
      have htk := List.take_succ_eq_append_getElem hi
      generalize bs[i] = x at hxl htk
      obtain ⟨xa, xu⟩ := x
      dsimp only [blD] at hxl ⊢
      repeat walk_at "x"
      refine ⟨w, n, xa, rfl, hxl, by omega, ?_⟩
      repeat walk_at "x"
      refine ⟨by omega, ?_⟩
      rw [Int.toNat_natCast]
      refine ⟨fun j Γ' M' => ∃ y1 y5, Γ' = [some (.p (bsD bs)), some (dI w), some (.p (sD s)), some (dI n), some (dI s.length), some (dI (begS w n (bs.take i))), some (.own a), y1, some (dI xa), some (dI (if xu then 1 else -1)), some (dI (sz xa w n)), y5, none, none, none] ∧
        M' = (a, Cell.dic (kz 0 as)) :: (cz as ((List.range s.length).map fun c => (subs w s.length n c (bs.take (if c < j then i + 1 else i)) 0).map blD) ++ M), ⟨_, _, rfl, by simp only [Nat.not_lt_zero, if_false]⟩, fun _ _ _ _ _ => trivial, fun j Γ' M' hjl hj => ?_, fun Γ' M' hj => ?_⟩
      · obtain ⟨y1, y5, rfl, rfl⟩ := hj
        have htl := turn_lt (up := xu) (c := j) (b := begS w n (bs.take i)) (z := sz xa w n) (m := s.length) (by omega)
        have hti := turn_int (up := xu) (c := j) (b := begS w n (bs.take i)) (z := sz xa w n) (m := s.length) (by omega)
        have haj : as[j]? = some (as[j]'(by omega)) := List.getElem?_eq_getElem (by omega)
        generalize as[j]'(by omega) = aj at haj
        have hxs : ((List.range s.length).map fun c => (subs w s.length n c (bs.take (if c < j then i + 1 else i)) 0).map blD)[j]? = some ((subs w s.length n j (bs.take (if j < j then i + 1 else i)) 0).map blD) := by simp [hjl]
        have hset := map_range_set (m := s.length) (j := j) (f := fun c => (subs w s.length n c (bs.take (if c < j then i + 1 else i)) 0).map blD) (g := fun c => (subs w s.length n c (bs.take (if c < j + 1 then i + 1 else i)) 0).map blD) hjl fun c hc => by
          have : c < j ↔ c < j + 1 := by omega
          simp only [this]
        rw [if_pos (Nat.lt_succ_self j)] at hset
        repeat walk_at "x"
        refine ⟨fun hz => ?_, fun hz => ?_⟩
        · obtain rfl : xu = true := by
            cases xu
            · exact absurd hz (by decide)
            · rfl
          simp only [if_true] at hti
          repeat walk_at "x"
          refine o_mod (by omega) ?_
          rw [hti]
          repeat walk_at "x"
          refine ox_dic (ky := .inl (j : Int)) (.head _) rfl (kz_lk0 haj) ?_
          refine ⟨aj, _, rfl, List.mem_cons_of_mem _ (List.mem_of_getElem? (cz_get haj hxs)), ?_⟩
          repeat walk_at "x"
          refine om_int (.inr ⟨by omega, by omega⟩) ?_
          repeat walk_at "x"
          refine ⟨j + 1, _, _, cz_get haj hxs, rfl, ?_, ?_⟩
          · rw [List.length_map, subs_len]
            have := List.length_take_le i bs
            have := List.length_take_le (i + 1) bs
            split <;> omega
          refine b_nil ?_
          refine ⟨_, _, rfl, ?_⟩
          rw [List.set_cons_succ, cz_set haj (by simp; omega)]
          congr 3
          rw [← hset]
          congr 1
          rw [htk, subs_snoc, List.map_append, if_neg (Nat.lt_irrefl _), Nat.zero_add]
          simp [blD]
        · obtain rfl : xu = false := by
            cases xu
            · rfl
            · exact absurd hz (by decide)
          simp only [Bool.false_eq_true, if_false] at hti
          repeat walk_at "x"
          refine o_mod (by omega) ?_
          rw [hti]
          repeat walk_at "x"
          refine ox_dic (ky := .inl (j : Int)) (.head _) rfl (kz_lk0 haj) ?_
          refine ⟨aj, _, rfl, List.mem_cons_of_mem _ (List.mem_of_getElem? (cz_get haj hxs)), ?_⟩
          repeat walk_at "x"
          refine om_int (.inr ⟨by omega, by omega⟩) ?_
          repeat walk_at "x"
          refine ⟨j + 1, _, _, cz_get haj hxs, rfl, ?_, ?_⟩
          · rw [List.length_map, subs_len]
            have := List.length_take_le i bs
            have := List.length_take_le (i + 1) bs
            split <;> omega
          refine b_nil ?_
          refine ⟨_, _, rfl, ?_⟩
          rw [List.set_cons_succ, cz_set haj (by simp; omega)]
          congr 3
          rw [← hset]
          congr 1
          rw [htk, subs_snoc, List.map_append, if_neg (Nat.lt_irrefl _), Nat.zero_add]
          simp [blD]
      · obtain ⟨y1, y5, rfl, rfl⟩ := hj
        repeat walk_at "x"
        refine ⟨y1, some (dI xa), some (dI (if xu then 1 else -1)), some (dI (sz xa w n)), y5, ?_, ?_⟩
        · rw [htk, begS_snoc, Int.natCast_add]; rfl
        · congr 3
          refine List.map_congr_left fun c hc => ?_
          rw [if_pos (List.mem_range.mp hc)]
    · obtain ⟨y1, y2, y3, y4, y5, rfl, rfl⟩ := hj
      rw [List.take_length]
      walk_at "x"
      walk_at "x"
      refine e_lstO ?_
      repeat walk_at "x"
      intro b
      repeat walk_at "x"
      refine i_tup o ?_
      repeat walk_at "x"
      rw [List.length_map]
      have hxs : ∀ q, q < s.length → ((List.range s.length).map fun c => (subs w s.length n c bs 0).map blD)[q]? = some ((subs w s.length n q bs 0).map blD) := fun q hq => by simp [hq]
      refine ⟨fun i Γ' M' => ∃ y0 y1 y2 y3 y4 y5 z1 z2, Γ' = [some (.p (bsD bs)), some (dI w), some (.p (sD s)), some (dI n), some (dI s.length), y0, some (.own a), y1, y2, y3, y4, y5, some (.own b), z1, z2] ∧
        M' = (b, Cell.lst (((s.take i).flatMap fun x => turnB x (subs w s.length n (x.natAbs - 1) bs 0)).map blD)) :: (a, Cell.dic (kz 0 as)) :: (cz as ((List.range s.length).map fun c => (subs w s.length n c bs 0).map blD) ++ M), ⟨_, _, _, _, _, _, _, _, rfl, rfl⟩, fun _ _ _ _ _ => trivial, fun i Γ' M' hi hj => ?_, fun Γ' M' hj => ?_⟩
      · obtain ⟨y0, y1, y2, y3, y4, y5, z1, z2, rfl, rfl⟩ := hj
        dsimp only
        rw [getD_map hi]
        have hx := ord_pos hs.ord (List.getElem_mem hi)
        have htk := List.take_succ_eq_append_getElem hi
        generalize s[i] = x at hx htk
        have ha : (if x < 0 then -x else x) - 1 = ((x.natAbs - 1 : Nat) : Int) := by omega
        have hq : x.natAbs - 1 < s.length := by omega
        have haj : as[x.natAbs - 1]? = some (as[x.natAbs - 1]'(by omega)) := List.getElem?_eq_getElem (by omega)
        generalize as[x.natAbs - 1]'(by omega) = aj at haj
        repeat walk_at "x"
        rw [ha]
        refine ox_dic (ky := .inl ((x.natAbs - 1 : Nat) : Int)) (.tail _ (.head _)) rfl (kz_lk0 haj) ?_
        repeat walk_at "x"
        have hlt : ((s.take i).flatMap fun x => turnB x (subs w s.length n (x.natAbs - 1) bs 0)).length ≤ 54 := by
          rw [flat_len, List.length_take]
          have : min i s.length * bs.length ≤ 2 * 27 := Nat.mul_le_mul (by omega) (by omega)
          omega
        have hfin : ((s.take (i + 1)).flatMap fun x => turnB x (subs w s.length n (x.natAbs - 1) bs 0)).map blD = ((s.take i).flatMap fun x => turnB x (subs w s.length n (x.natAbs - 1) bs 0)).map blD ++ (turnB x (subs w s.length n (x.natAbs - 1) bs 0)).map blD := by
          rw [htk, List.flatMap_append, List.map_append]; simp
        refine ⟨b, _, rfl, .head _, ?_⟩
        refine e_conv ?_
        repeat walk_at "x"
        refine ⟨fun hz => ?_, fun hz => ?_⟩
        · have hz : 0 < x := by simpa using hz
          repeat walk_at "x"
          refine ⟨_, Conv.refl, 0, _, (subs w s.length n (x.natAbs - 1) bs 0).map blD, rfl, .own (.tail _ (.tail _ (List.mem_of_getElem? (cz_get haj (hxs _ hq))))), by simp only [List.length_map, subs_len]; omega, ?_⟩
          refine b_nil ?_
          refine ⟨_, _, _, _, _, _, _, _, rfl, ?_⟩
          rw [hfin, turnB, if_pos hz]; rfl
        · have hz : ¬ 0 < x := by simpa using hz
          repeat walk_at "x"
          refine e_lcM [("part", 8), ("way", 9)] o rfl (fun _ => rfl) ?_
          refine i_list o ?_
          repeat walk_at "x"
          refine s3_revL (.own (.tail _ (.tail _ (List.mem_of_getElem? (cz_get haj (hxs _ hq)))))) fun d => ?_
          refine ⟨_, .own (.head _), ?_⟩
          refine ⟨fun q => blD (flipB ((subs w s.length n (x.natAbs - 1) bs 0).reverse.getD q (0, true))), by simp only [List.length_reverse, List.length_map, subs_len]; omega, fun acc d2 => .own (.tail _ (.head _)), fun q acc d2 hq X1 o1 => ?_, fun d2 => ?_⟩
          · rw [← List.map_reverse, List.length_map] at hq
            rw [← List.map_reverse]
            dsimp only
            rw [getD_map hq, List.getD_eq_getElem?_getD, List.getElem?_eq_getElem hq]
            generalize (subs w s.length n (x.natAbs - 1) bs 0).reverse[q] = y
            obtain ⟨ya, yu⟩ := y
            dsimp only [blD]
            repeat walk_at "x"
            intro X2 o2
            repeat walk_at "x"
            refine ⟨?_, rfl⟩
            cases yu <;> rfl
          rw [← List.map_reverse, List.length_map, range_map_get (f := fun y => blD (flipB y)) (xs := (subs w s.length n (x.natAbs - 1) bs 0).reverse) fun q hq => by rw [List.getD_eq_getElem?_getD, List.getElem?_eq_getElem hq]; rfl]
          refine ⟨_, Conv.refl, 2, _, _, rfl, .own (.head _), by simp only [List.length_reverse, List.length_map, subs_len]; omega, ?_⟩
          refine sq_conv (Conv.drop.trans Conv.drop) ?_
          refine b_nil ?_
          refine ⟨_, _, _, _, _, _, _, _, rfl, ?_⟩
          rw [hfin, turnB, if_neg hz, List.map_map]; rfl
      · obtain ⟨y0, y1, y2, y3, y4, y5, z1, z2, rfl, rfl⟩ := hj
        rw [List.take_length]
        walk_at "x"
        walk_at "x"
        refine e_conv ?_
        repeat walk_at "x"
        refine c_tuple (.inl (.own (.head _))) ?_
        refine ⟨M, Conv.sub (.cons _ (.cons _ (List.sublist_append_right _ _))), p⟩
end

section
open PySem PySem.Spec PyProof.Rows L2
open Evl (Ex)
theorem ordB_take {ss : List (List Int)} {i n : Nat} (hi : i < ss.length) : ordB (ss.take (i + 1)) n = ((ordB (ss.take i) n).1 * ss[i].length, nextB (ordB (ss.take i) n).1 ss[i] n (ordB (ss.take i) n).2) := by
  rw [List.take_succ_eq_append_getElem hi, ordB_snoc]
def phOrdFor : Phi := fun ds M P _ => ∃ (ss : List (List Int)) (n : Nat), ds = [.p (ssD ss), dI n] ∧ StepsOk ss ∧ P (.p (sD (orderN ss n))) M
theorem ok_orderFor {m : Md} {f : Addr} {fd : FuncData} {k : Nat} (F : Fun m.K "order_for" "order_for" S_order_for f fd) (F1 : Fd m CX0 k "next_blocks" phNB) (g1 : GlD m "FIRST" (.p (bsD [(0, true)]))) (m1 : m.mg "len" = none) (m4 : m.mg "tuple" = none) :
    FnOk m.P m.w m.K m.mg m.base CX0 (k + 1) f fd A_order_for (spOf m.G phOrdFor) := by
  refine fn_ok F sc_order_for (fun ds M P R h => by obtain ⟨ss, n, rfl, _⟩ := h; rfl) (fun c ds M P R hc o hl h => ?_)
  subst hc
  obtain ⟨ss, n, rfl, hs, p⟩ := h
  show Eb c [some (.p (ssD ss)), some (dI n), none, none, none, none, none] M _ _
  refine b_cons' (by rfl) ?_
  repeat walk_at "x"
  refine ⟨_, _, rfl, ?_⟩
  show Eb c [some (.p (ssD ss)), some (dI n), some (.p (bsD [(0, true)])), some (dI 1), none, none, none] M _ _
  have hbk : ∀ i, BOk n (ss.take i) (ordB (ss.take i) n) := fun i => bok fun s h => hs.ords s (List.mem_of_mem_take h)
  have hw27 : ∀ i, wideOf (ss.take i) ≤ 27 := fun i => (wide_le (ss := ss.take i) ⟨by rw [List.length_take]; have := hs.1; omega, fun s h => hs.2 s (List.mem_of_mem_take h)⟩).2
  repeat walk_at "x"
  refine i_tup o ?_
  repeat walk_at "x"
  rw [List.length_map]
  refine ⟨fun i Γ' M' => ∃ z, Γ' = [some (.p (ssD ss)), some (dI n), some (.p (bsD (ordB (ss.take i) n).2)), some (dI (ordB (ss.take i) n).1), z, none, none] ∧ M' = M, ⟨none, rfl, rfl⟩, fun _ _ _ _ _ => trivial, fun i Γ' M' hi hj => ?_, fun Γ' M' hj => ?_⟩
  · obtain ⟨z, rfl, rfl⟩ := hj
    dsimp only
    rw [ssd_get hi]
    have hst := hs.2 _ (List.getElem_mem hi)
    have hb := hbk i
    have hw := hw27 i
    have htk := ordB_take (n := n) hi
    repeat walk_at "x"
    refine ⟨_, _, ss[i], n, rfl, hst, hb.pos, by rw [hb.w]; exact hw, hb.len, hb.lt, ?_⟩
    repeat walk_at "x"
    refine om_int (.inr ⟨by omega, by have := hst.2.1; simp; omega⟩) ?_
    repeat walk_at "x"
    refine ⟨some (.p (sD ss[i])), ?_, rfl⟩
    rw [htk, List.length_map, ← Int.natCast_mul]; rfl
  · obtain ⟨z, rfl, rfl⟩ := hj
    rw [List.take_length]
    have hb := hbk ss.length
    have hw := hw27 ss.length
    rw [List.take_length] at hb hw
    walk_at "x"
    walk_at "x"
    refine e_conv ?_
    repeat walk_at "x"
    refine e_lcM [("part", 5), ("way", 6)] o rfl (fun _ => rfl) ?_
    refine i_tup o ?_
    repeat walk_at "x"
    refine ⟨fun q => .int (blkI ((ordB ss n).2.getD q (0, true))), by rw [List.length_map, hb.len, hb.w]; omega, fun _ _ => trivial, fun q acc d2 hq X1 o1 => ?_, fun d2 => ?_⟩
    · rw [List.length_map] at hq
      dsimp only
      rw [getD_map hq, List.getD_eq_getElem?_getD, List.getElem?_eq_getElem hq]
      generalize (ordB ss n).2[q] = y
      obtain ⟨ya, yu⟩ := y
      dsimp only [blD]
      repeat walk_at "x"
      intro X2 o2
      repeat walk_at "x"
      refine om_int (.inr ⟨by split <;> decide, by split <;> decide⟩) ?_
      exact ⟨rfl, rfl⟩
    rw [List.length_map, range_map_get (f := fun y => PyData.int (blkI y)) (xs := (ordB ss n).2) fun q hq => by rw [List.getD_eq_getElem?_getD, List.getElem?_eq_getElem hq]; rfl]
    repeat walk_at "x"
    refine c_tuple (.inl (.own (.head _))) ?_
    refine ⟨M', Conv.drop, ?_⟩
    rw [show (ordB ss n).2.map (fun y => PyData.int (blkI y)) = (orderN ss n).map .int by unfold orderN; rw [List.map_map]; rfl]
    exact p
end

section
open PySem PySem.Spec PyProof.Rows L2
open Evl (Ex)
def phOrdAt : Phi := fun ds M P _ => ∃ (ss : List (List Int)) (n : Nat), ds = [.scr (ssD ss), dI n] ∧ StepsOk ss ∧ n ≤ TOP ∧ P (.p (sD (orderN ss (n % wideOf ss)))) M
theorem ok_orderAt {m : Md} {f : Addr} {fd : FuncData} {k : Nat} (F : Fun m.K "order_at" "order_at" S_order_at f fd) (F1 : Fd m CX0 k "check_length" phChkL) (F2 : Fd m CX0 k "order_for" phOrdFor) (S : ClsS m) (F3 : PrS m (k - 1) "wide" phWide) (hk : 1 ≤ k) :
    FnOk m.P m.w m.K m.mg m.base CX0 (k + 1) f fd A_order_at (spOf m.G phOrdAt) := by
  refine fn_ok F sc_order_at (fun ds M P R h => by obtain ⟨ss, n, rfl, _⟩ := h; rfl) (fun c ds M P R hc o hl h => ?_)
  subst hc
  obtain ⟨ss, n, rfl, hs, hn, p⟩ := h
  have hw0 := (wide_le hs).1
  show Eb c [some (.scr (ssD ss)), some (dI n)] M _ _
  refine b_cons' (by rfl) ?_
  repeat walk_at "x"
  refine ⟨n, rfl, hn, ?_⟩
  repeat walk_at "x"
  refine ⟨⟨_, rfl⟩, ss, rfl, hs, ?_⟩
  refine o_mod (by omega) ?_
  rw [← Int.natCast_emod]
  repeat walk_at "x"
  exact ⟨ss, _, rfl, hs, p⟩
end

section
open PySem PySem.Spec PyProof.Rows L2
open Evl (Ex)
def phOrds : Phi := fun ds M P _ => ∃ ss : List (List Int), ds = [.scr (ssD ss)] ∧ StepsOk ss ∧ P (.p (ssD (ordsN ss))) M
theorem ok_ordersOf {m : Md} {f : Addr} {fd : FuncData} {k : Nat} (F : Fun m.K "orders_of" "orders_of" S_orders_of f fd) (F2 : Fd m CX0 k "order_for" phOrdFor) (S : ClsS m) (F3 : PrS m (k - 1) "wide" phWide) (hk : 1 ≤ k) (m1 : m.mg "tuple" = none) (m2 : m.mg "range" = none) :
    FnOk m.P m.w m.K m.mg m.base CX0 (k + 1) f fd A_orders_of (spOf m.G phOrds) := by
  refine fn_ok F sc_orders_of (fun ds M P R h => by obtain ⟨ss, rfl, _⟩ := h; rfl) (fun c ds M P R hc o hl h => ?_)
  subst hc
  obtain ⟨ss, rfl, hs, p⟩ := h
  have hw := wide_le hs
  show Eb c [some (.scr (ssD ss)), none] M _ _
  refine sq_ret ?_
  refine b_cons' (by rfl) ?_
  repeat walk_at "x"
  refine e_lcM [("remainder", 1)] o rfl (fun _ => rfl) ?_
  repeat walk_at "x"
  refine ⟨⟨_, rfl⟩, ss, rfl, hs, ?_⟩
  repeat walk_at "x"
  refine ⟨⟨by omega, by omega⟩, ?_⟩
  rw [Int.toNat_natCast]
  refine ⟨fun q => sD (orderN ss q), by omega, fun _ _ => trivial, fun q acc d2 hq X1 o1 => ?_, fun d2 => ?_⟩
  · repeat walk_at "x"
    intro X2 o2
    repeat walk_at "x"
    exact ⟨ss, q, rfl, hs, rfl, rfl⟩
  repeat walk_at "x"
  refine c_tuple (.inl (.own (.head _))) ?_
  refine ⟨M, Conv.drop, ?_⟩
  have e : ((List.range (wideOf ss)).map fun q => sD (orderN ss q)) = (ordsN ss).map sD := by unfold ordsN; rw [List.map_map]; rfl
  rw [e]; exact p
end

section
open PySem PySem.Spec PyProof.Rows L2
open Evl (Ex)
theorem ok_orders {m : Md} {f : Addr} {fd : FuncData} {k : Nat} (F : Fun m.K "orders" "orders" S_orders f fd) (F2 : Fd m CX0 k "orders_of" phOrds) :
    FnOk m.P m.w m.K m.mg m.base CX0 (k + 1) f fd A_orders (spOf m.G phOrds) := by
  refine fn_ok F sc_orders (fun ds M P R h => by obtain ⟨ss, rfl, _⟩ := h; rfl) (fun c ds M P R hc o hl h => ?_)
  subst hc
  obtain ⟨ss, rfl, hs, p⟩ := h
  show Eb c [some (.scr (ssD ss))] M _ _
  refine b_cons' (by rfl) ?_
  repeat walk_at "x"
  exact ⟨ss, rfl, hs, p⟩
end

section
open PySem PySem.Spec PyProof.Rows L2
open Evl (Ex)
def phSteady : Phi := fun ds M P _ => ∃ ss : List (List Int), ds = [.scr (ssD ss)] ∧ StepsOk ss ∧ P (dB ((ordsN ss).all fun s => decide (s = (ordsN ss).getD 0 []))) M
theorem ok_steady {m : Md} {f : Addr} {fd : FuncData} {k : Nat} (F : Fun m.K "is_steady" "is_steady" S_is_steady f fd) (F2 : Fd m CX0 k "orders_of" phOrds) (m1 : m.mg "all" = none) :
    FnOk m.P m.w m.K m.mg m.base CX0 (k + 1) f fd A_is_steady (spOf m.G phSteady) := by
  refine fn_ok F sc_is_steady (fun ds M P R h => by obtain ⟨ss, rfl, _⟩ := h; rfl) (fun c ds M P R hc o hl h => ?_)
  subst hc
  obtain ⟨ss, rfl, hs, p⟩ := h
  have hw := wide_le hs
  have hl0 : (ordsN ss).length = wideOf ss := by simp [ordsN]
  show Eb c [some (.scr (ssD ss)), none, none] M _ _
  refine sq_ret ?_
  refine b_cons' (by rfl) ?_
  repeat walk_at "x"
  refine ⟨ss, rfl, hs, ?_⟩
  generalize ordsN ss = os at hl0 p
  repeat walk_at "x"
  refine e_lcM [("order", 2)] o rfl (fun _ => rfl) ?_
  refine i_tup o ?_
  repeat walk_at "x"
  rw [List.length_map]
  refine ⟨fun q => .bool (decide (os.getD q [] = os.getD 0 [])), by omega, fun _ _ => trivial, fun q acc d2 hq X1 o1 => ?_, fun d2 => ?_⟩
  · dsimp only
    rw [ssd_get hq, getD_at hq]
    repeat walk_at "x"
    intro X2 o2
    repeat walk_at "x"
    refine ox_tup (j := 0) (p := sD (os.getD 0 [])) (by rw [List.getElem?_map, List.getElem?_eq_getElem (by omega), getD_at (by omega)]; rfl) (.inl rfl) ?_
    refine oe_c sC _ _ (.p _) (.p _) rfl ?_
    exact ⟨rfl, rfl⟩
  rw [range_map_get (f := fun s => PyData.bool (decide (s = os.getD 0 []))) (xs := os) fun q hq => by rw [getD_at hq]]
  repeat walk_at "x"
  refine c_all (bs := os.map fun s => decide (s = os.getD 0 [])) (.own (by rw [List.map_map]; exact .head _)) ?_
  rw [List.all_map]
  exact ⟨M, Conv.drop, p⟩
end

section
open PySem PySem.Spec PyProof.Rows L2
open Evl (Ex)
theorem Rdd.cons {M : Mem} {x : D} {e : PyData} {c : Addr × Cell} (h : Rdd M x e) : Rdd (c :: M) x e := by
  cases h with
  | p => exact .p _
  | scp => exact .scp _
  | own h => exact .own (List.mem_cons_of_mem _ h)
end

section
open PySem PySem.Spec PyProof.Rows L2
open Evl (Ex)
def colT {α : Type} (w : Nat) (xs : List α) (x : Int) : List α := if 0 < x then colN (x.natAbs - 1) w xs else (colN (x.natAbs - 1) w xs).reverse
theorem rdIt_colT {α : Type} (s : List Int) (xs : List α) : rdIt s xs = s.flatMap (colT s.length xs) := rdIt_flat s xs
theorem flat_snoc {α β : Type} {f : α → List β} {s : List α} {i : Nat} (hi : i < s.length) : (s.take (i + 1)).flatMap f = (s.take i).flatMap f ++ f s[i] := by
  rw [List.take_succ_eq_append_getElem hi, List.flatMap_append]; simp
theorem colT_len {α : Type} {w : Nat} {xs : List α} {x : Int} : (colT w xs x).length ≤ xs.length + w := by
  unfold colT; split
  · exact colN_len _ _ _
  · rw [List.length_reverse]; exact colN_len _ _ _
theorem flat_le {α β : Type} {f : α → List β} {n : Nat} : ∀ {s : List α}, (∀ x ∈ s, (f x).length ≤ n) → (s.flatMap f).length ≤ n * s.length
  | [], _ => by simp
  | x :: s, h => by
    have ih := flat_le (s := s) fun y hy => h y (List.mem_cons_of_mem _ hy)
    have hx := h x (by simp)
    rw [List.flatMap_cons, List.length_append, List.length_cons, Nat.mul_succ]; omega
theorem flat_take {α β : Type} {f : α → List β} (s : List α) (i : Nat) : ((s.take i).flatMap f).length ≤ (s.flatMap f).length := by
  conv => rhs; rw [← List.take_append_drop i s, List.flatMap_append, List.length_append]
  omega
def RdS (M : Mem) (x : D) (xs : List PyData) : Prop := Rdd M x (.list xs) ∨ x = dT xs
theorem RdS.cons {M : Mem} {x : D} {xs : List PyData} {c : Addr × Cell} (h : RdS M x xs) : RdS (c :: M) x xs := by
  rcases h with h | h
  · left
    generalize he : PyData.list xs = e at h ⊢
    cases h with
    | p => exact .p _
    | scp => exact .scp _
    | own h => exact .own (List.mem_cons_of_mem _ h)
  · exact .inr h
def phRdI : Phi := fun ds M P _ => ∃ (s : List Int) (x : D) (xs : List PyData), ds = [.p (sD s), x] ∧ OrdOk s ∧ s.length ≤ 100 ∧ RdS M x xs ∧ xs.length ≤ 1000 ∧ ∀ a, P (.own a) ((a, .lst (rdIt s xs)) :: M)
theorem ok_readItems {m : Md} {f : Addr} {fd : FuncData} {k : Nat} (F : Fun m.K "read_items" "read_items" S_read_items f fd) (m1 : m.mg "len" = none) (m2 : m.mg "abs" = none) (m3 : m.mg "list" = none) :
    FnOk m.P m.w m.K m.mg m.base CX0 (k + 1) f fd A_read_items (spOf m.G phRdI) := by
  refine fn_ok F sc_read_items (fun ds M P R h => by obtain ⟨s, x, xs, rfl, _⟩ := h; rfl) (fun c ds M P R hc o hl h => ?_)
  subst hc
  obtain ⟨s, x, xs, rfl, hs, hsl, hx, hxl, p⟩ := h
  have hw := hs.1
  show Eb c [some (.p (sD s)), some x, none, none, none, none] M _ _
  refine sq_ret ?_
  refine b_cons' (by rfl) ?_
  repeat walk_at "x"
  refine e_lstO ?_
  repeat walk_at "x"
  intro b
  repeat walk_at "x"
  refine ⟨_, _, rfl, ?_⟩
  show Eb c [some (.p (sD s)), some x, some (.own b), some (dI (s.map PyData.int).length), none, none] _ _ _
  rw [List.length_map]
  repeat walk_at "x"
  refine i_tup o ?_
  repeat walk_at "x"
  rw [List.length_map]
  have hbig : (rdIt s xs).length ≤ 1000 := by rw [rdIt_len hs]; exact hxl
  rw [rdIt_colT] at hbig
  refine ⟨fun i Γ' M' => ∃ y z, Γ' = [some (.p (sD s)), some x, some (.own b), some (dI s.length), y, z] ∧ M' = (b, Cell.lst ((s.take i).flatMap (colT s.length xs))) :: M, ⟨_, _, rfl, rfl⟩, fun _ _ _ _ _ => trivial, fun i Γ' M' hi hj => ?_, fun Γ' M' hj => ?_⟩
  · obtain ⟨y, z, rfl, rfl⟩ := hj
    have hx1 := ord_pos hs (List.getElem_mem hi)
    have hsn := flat_snoc (f := colT s.length xs) hi
    have hb1 := Nat.le_trans (flat_take (f := colT s.length xs) s i) hbig
    dsimp only
    rw [getD_map hi]
    generalize s[i] = q at hx1 hsn
    have hq := colT_len (w := s.length) (xs := xs) (x := q)
    have ha : (if q < 0 then -q else q) - 1 = ((q.natAbs - 1 : Nat) : Int) := by omega
    walk_at "x"
    walk_at "x"
    walk_at "x"
    refine Ep.imp (P := fun d1 M1 => ∃ e : Addr, d1 = .own e ∧ ∃ M0, M1 = (e, Cell.lst (colN (q.natAbs - 1) s.length xs)) :: M0 ∧ ((b, Cell.lst ((s.take i).flatMap (colT s.length xs))) :: M).Sublist M0) ?_ (fun d1 M1 h => ?_)
    · repeat walk_at "x"
      rw [ha]
      rcases hx.cons with h | rfl
      · refine s3_colL h hw fun b2 => ?_
        repeat walk_at "x"
        refine c_list (.inl (.own (.head _))) fun b3 => ?_
        exact ⟨b3, rfl, _, rfl, .cons _ (.refl _)⟩
      · refine s3_colT (by omega) hw (by omega) ?_
        repeat walk_at "x"
        refine c_list (.inr rfl) fun b3 => ?_
        exact ⟨b3, rfl, _, rfl, .refl _⟩
    obtain ⟨e, rfl, M0, rfl, hsub⟩ := h
    refine sq_conv (Conv.sub (.cons_cons _ hsub)) ?_
    repeat walk_at "x"
    refine ⟨b, _, rfl, .tail _ (.head _), ?_⟩
    repeat walk_at "x"
    refine ⟨fun hz => ?_, fun hz => ?_⟩
    · have hz : 0 < q := of_decide_eq_true hz
      repeat walk_at "x"
      unfold colT at hq
      rw [if_pos hz] at hq
      refine ⟨1, _, _, rfl, .own (.head _), by omega, ?_⟩
      refine sq_conv Conv.drop ?_
      repeat walk_at "x"
      refine ⟨_, _, rfl, ?_⟩
      rw [hsn]; simp only [colT, if_pos hz]; rfl
    · have hz : ¬ 0 < q := of_decide_eq_false hz
      repeat walk_at "x"
      refine s3_revL (.own (.head _)) fun b4 => ?_
      unfold colT at hq
      rw [if_neg hz] at hq
      refine ⟨2, _, _, rfl, .own (.head _), by omega, ?_⟩
      refine sq_conv (Conv.drop.trans Conv.drop) ?_
      repeat walk_at "x"
      refine ⟨_, _, rfl, ?_⟩
      rw [hsn]; simp only [colT, if_neg hz]; rfl
  · obtain ⟨y, z, rfl, rfl⟩ := hj
    rw [List.take_length, ← rdIt_colT]
    repeat walk_at "x"
    exact ⟨_, Conv.refl, p b⟩
end

section
open PySem PySem.Spec PyProof.Rows L2
open Evl (Ex)
theorem doneIt_take {α : Type} {ss : List (List Int)} {xs : List α} {i : Nat} (hi : i < ss.length) : doneIt (ss.take (i + 1)) xs = rdIt ss[i] (doneIt (ss.take i) xs) := by
  rw [List.take_succ_eq_append_getElem hi, doneIt_snoc]
def phDnI : Phi := fun ds M P _ => ∃ (ss : List (List Int)) (x : D) (xs : List PyData), ds = [.p (ssD ss), x] ∧ (∀ s ∈ ss, OrdOk s ∧ s.length ≤ 100) ∧ RdS M x xs ∧ xs.length ≤ 1000 ∧ ∀ a, P (.own a) ((a, .lst (doneIt ss xs)) :: M)
theorem ok_doneItems {m : Md} {f : Addr} {fd : FuncData} {k : Nat} (F : Fun m.K "done_items" "done_items" S_done_items f fd) (F1 : Fd m CX0 k "read_items" phRdI) (m3 : m.mg "list" = none) :
    FnOk m.P m.w m.K m.mg m.base CX0 (k + 1) f fd A_done_items (spOf m.G phDnI) := by
  refine fn_ok F sc_done_items (fun ds M P R h => by obtain ⟨s, x, xs, rfl, _⟩ := h; rfl) (fun c ds M P R hc o hl h => ?_)
  subst hc
  obtain ⟨ss, x, xs, rfl, hs, hx, hxl, p⟩ := h
  show Eb c [some (.p (ssD ss)), some x, none] M _ _
  refine sq_ret ?_
  refine b_cons' (by rfl) ?_
  repeat walk_at "x"
  refine i_tup o ?_
  repeat walk_at "x"
  rw [List.length_map]
  refine ⟨fun i Γ' M' => ∃ y z, Γ' = [some (.p (ssD ss)), some y, z] ∧ M.Sublist M' ∧ RdS M' y (doneIt (ss.take i) xs), ⟨_, _, rfl, .refl _, hx⟩, fun _ _ _ _ _ => trivial, fun i Γ' M' hi hj => ?_, fun Γ' M' hj => ?_⟩
  · obtain ⟨y, z, rfl, hsub, hy⟩ := hj
    have h1 := hs _ (List.getElem_mem hi)
    have hlen := doneIt_len (fun s h => (hs s (List.mem_of_mem_take h)).1) xs (ss := ss.take i)
    dsimp only
    rw [ssd_get hi]
    repeat walk_at "x"
    refine ⟨ss[i], y, _, rfl, h1.1, h1.2, hy, by omega, fun b => ?_⟩
    repeat walk_at "x"
    refine ⟨_, _, rfl, .cons _ hsub, .inl ?_⟩
    rw [doneIt_take hi]
    exact .own (.head _)
  · obtain ⟨y, z, rfl, hsub, hy⟩ := hj
    rw [List.take_length] at hy
    repeat walk_at "x"
    refine c_list hy fun b => ?_
    exact ⟨_, Conv.sub (.cons_cons _ hsub), p b⟩
end

section
open PySem PySem.Spec PyProof.Rows L2
open Evl (Ex)
def phLike : Phi := fun ds M P _ => ∃ (t y : D), ds = [t, y] ∧ ((∃ (s : Str) (zs : List Str), t = dS s ∧ Rdd M y (.list (zs.map .str)) ∧ (zs.map (·.length)).sum ≤ 16777216 ∧ P (dS (Str.join "" zs)) M) ∨ (∃ ts zs, t = dT ts ∧ Rdd M y (.list zs) ∧ P (dT zs) M) ∨ (∃ ts, Rdd M t (.list ts) ∧ P y M))
theorem ok_like {m : Md} {f : Addr} {fd : FuncData} {k : Nat} (F : Fun m.K "like" "like" S_like f fd) (m1 : m.mg "isinstance" = none) (m2 : m.mg "str" = none) (m3 : m.mg "tuple" = none) :
    FnOk m.P m.w m.K m.mg m.base CX0 (k + 1) f fd A_like (spOf m.G phLike) := by
  refine fn_ok F sc_like (fun ds M P R h => by obtain ⟨t, y, rfl, _⟩ := h; rfl) (fun c ds M P R hc o hl h => ?_)
  subst hc
  obtain ⟨t, y, rfl, h⟩ := h
  show Eb c [some t, some y] M _ _
  refine b_cons' (by rfl) ?_
  rcases h with ⟨s, zs, rfl, hy, hl2, p⟩ | ⟨ts, zs, rfl, hy, p⟩ | ⟨ts, ht, p⟩
  · repeat walk_at "x"
    rw [show isI (.str s) "str" = true by simp [isI, tyN]]
    repeat walk_at "x"
    exact ⟨zs, .inl hy, by rw [show ("" : Str).length = 0 from rfl]; omega, p⟩
  · repeat walk_at "x"
    rw [show isI (.tuple ts) "str" = false by simp [isI, tyN]]
    repeat walk_at "x"
    rw [show isI (.tuple ts) "tuple" = true by simp [isI, tyN]]
    repeat walk_at "x"
    exact c_tuple (.inl hy) p
  · repeat walk_at "x"
    refine ⟨_, ht, _, rfl, ?_⟩
    rw [show isI (.list ts) "str" = false by simp [isI, tyN]]
    repeat walk_at "x"
    refine ⟨_, ht, _, rfl, ?_⟩
    rw [show isI (.list ts) "tuple" = false by simp [isI, tyN]]
    repeat walk_at "x"
    exact p
def TxtD (M : Mem) (t : D) (xs : List PyData) : Prop := (∃ s : Str, t = dS s ∧ s.length ≤ 1000 ∧ xs = (signsS s).map .str) ∨ t = dT xs ∨ Rdd M t (.list xs)
def TxtK (M : Mem) (t : D) (P : D → Mem → Prop) (f : (α : Type) → List α → List α) : Prop := (∃ s : Str, t = dS s ∧ s.length ≤ 1000 ∧ P (dS (Str.join "" (f Str (signsS s)))) M) ∨ (∃ xs, t = dT xs ∧ xs.length ≤ 1000 ∧ P (dT (f PyData xs)) M) ∨ (∃ xs, Rdd M t (.list xs) ∧ xs.length ≤ 1000 ∧ ∀ a, P (.own a) ((a, .lst (f PyData xs)) :: M))
theorem TxtK.s {M : Mem} {P : D → Mem → Prop} {f : (α : Type) → List α → List α} {s z : Str} (h : Str.join "" (f Str (signsS s)) = z) (hl : s.length ≤ 1000) (p : P (dS z) M) : TxtK M (dS s) P f := .inl ⟨s, rfl, hl, by rw [h]; exact p⟩
theorem TxtK.t {M : Mem} {P : D → Mem → Prop} {f : (α : Type) → List α → List α} {xs ys : List PyData} (h : f PyData xs = ys) (hl : xs.length ≤ 1000) (p : P (dT ys) M) : TxtK M (dT xs) P f := .inr (.inl ⟨xs, rfl, hl, by rw [h]; exact p⟩)
theorem TxtK.l {M : Mem} {P : D → Mem → Prop} {f : (α : Type) → List α → List α} {t : D} {xs ys : List PyData} (hx : Rdd M t (.list xs)) (h : f PyData xs = ys) (hl : xs.length ≤ 1000) (p : ∀ a, P (.own a) ((a, .lst ys) :: M)) : TxtK M t P f := .inr (.inr ⟨xs, hx, hl, by rw [h]; exact p⟩)
structure NatF (f : (α : Type) → List α → List α) : Prop where
  map : ∀ zs : List Str, f PyData (zs.map .str) = (f Str zs).map .str
  mem : ∀ (zs : List Str) (x : Str), x ∈ f Str zs → x ∈ zs
  len : ∀ zs : List Str, (f Str zs).length = zs.length
theorem signs_len {s : Str} : (signsS s).length = s.length := by simp [signsS, Str.length]
theorem TxtD.cons {M : Mem} {t : D} {xs : List PyData} {p : Addr × Cell} (h : TxtD M t xs) : TxtD (p :: M) t xs := by
  rcases h with h | h | h
  · exact .inl h
  · exact .inr (.inl h)
  · refine .inr (.inr ?_)
    generalize he : PyData.list xs = e at h ⊢
    cases h with
    | p => exact .p _
    | scp => exact .scp _
    | own h => exact .own (List.mem_cons_of_mem _ h)
theorem txt_of {c : Cd} {M : Mem} {t : D} {P : D → Mem → Prop} {f : (α : Type) → List α → List α} (hf : NatF f) (h : TxtK M t P f) : ∃ xs, TxtD M t xs ∧ xs.length ≤ 1000 ∧ ∀ (a : Addr) (M1 : Mem) (Rr : Addr → List (Str × PyData) → Mem → Prop), M.Sublist M1 → phLike [t, .own a] ((a, .lst (f PyData xs)) :: M1) (fun d M' => ∃ M2, Conv c.G M' M2 ∧ P d M2) Rr := by
  rcases h with ⟨s, rfl, hl, p⟩ | ⟨xs, rfl, hl, p⟩ | ⟨xs, hx, hl, p⟩
  · refine ⟨_, .inl ⟨s, rfl, hl, rfl⟩, by rw [List.length_map, signs_len]; exact hl, fun a M1 Rr hs => ⟨_, _, rfl, .inl ⟨s, f Str (signsS s), rfl, .own (by rw [hf.map]; exact .head _), ?_, _, Conv.sub (.cons _ hs), p⟩⟩⟩
    have h1 := sum_le (xs := f Str (signsS s)) (n := 1) fun x hx => by
      have := hf.mem _ _ hx
      unfold signsS at this
      obtain ⟨ch, _, rfl⟩ := List.mem_map.mp this
      exact Nat.le_refl 1
    rw [hf.len, signs_len] at h1
    omega
  · exact ⟨xs, .inr (.inl rfl), hl, fun a M1 Rr hs => ⟨_, _, rfl, .inr (.inl ⟨xs, _, rfl, .own (.head _), _, Conv.sub (.cons _ hs), p⟩)⟩⟩
  · refine ⟨xs, .inr (.inr hx), hl, fun a M1 Rr hs => ⟨_, _, rfl, .inr (.inr ⟨xs, ?_, _, Conv.sub (.cons_cons _ hs), p a⟩)⟩⟩
    generalize he : PyData.list xs = e at hx ⊢
    cases hx with
    | p => exact .p _
    | scp => exact .scp _
    | own h => exact .own (List.mem_cons_of_mem _ (hs.subset h))
section
variable {c : Cd} {N : List Str} {sc : Scope} {k : Nat} {M : Mem} {P : D → Mem → Prop} {t : D} {xs : List PyData}
theorem c_lenTx (h : TxtD M t xs) (p : P (dI xs.length) M) : OL c (rLen c) [t] M P := by
  rcases h with ⟨s, rfl, hl, rfl⟩ | rfl | h
  · rw [List.length_map, signs_len] at p
    exact c_lenS (by omega) p
  · exact c_lenT p
  · exact c_lenL h p
theorem c_listTx (h : TxtD M t xs) (p : ∀ a, P (.own a) ((a, .lst xs) :: M)) : OL c (rList c.m.K) [t] M P := by
  rcases h with ⟨s, rfl, hl, rfl⟩ | rfl | h
  · exact c_listS (by omega) p
  · exact c_list (.inr rfl) p
  · exact c_list (.inl h) p
theorem ox_tx {j : Nat} {y : PyData} (h : TxtD M t xs) (hj : xs[j]? = some y) (p : P (.p y) M) : O2 c (rIxA c.m.K) t (dI j) M P := by
  rcases h with ⟨s, rfl, hl, rfl⟩ | rfl | h
  · unfold signsS at hj
    rw [List.map_map, List.getElem?_map] at hj
    obtain ⟨ch, hc, rfl⟩ := Option.map_eq_some_iff.mp hj
    exact ox_str (by omega) hc (.inl rfl) p
  · exact ox_tup hj (.inl rfl) p
  · exact ox_lst h hj (.inl rfl) p
end
theorem pickI_mem {α : Type} {xs : List α} {is : List Nat} {x : α} (h : x ∈ pickI xs is) : x ∈ xs := by
  unfold pickI at h
  obtain ⟨i, _, hi⟩ := List.mem_filterMap.mp h
  exact List.mem_of_getElem? hi
theorem doneIt_mem {α : Type} {x : α} : ∀ {ss : List (List Int)} {xs : List α}, x ∈ doneIt ss xs → x ∈ xs
  | [], _, h => h
  | s :: ss, xs, h => pickI_mem (doneIt_mem (ss := ss) (xs := rdIt s xs) h)
theorem setN_mem {α : Type} {ns : List Nat} {xs ys : List α} {i : Nat} {x : α} (h : x ∈ setN ns xs ys i) : x ∈ xs ∨ x ∈ ys := by
  have key : ∀ (l : List (Nat × α)) (ys : List α), x ∈ l.foldl (fun acc p => acc.set p.1 p.2) ys → (∃ p ∈ l, p.2 = x) ∨ x ∈ ys := by
    intro l
    induction l with
    | nil => intro ys h; exact .inr h
    | cons p l ih =>
      intro ys h
      rw [List.foldl_cons] at h
      rcases ih _ h with ⟨q, hq, e⟩ | h
      · exact .inl ⟨q, List.mem_cons_of_mem _ hq, e⟩
      · rcases List.mem_or_eq_of_mem_set h with h | rfl
        · exact .inr h
        · exact .inl ⟨p, by simp, rfl⟩
  rcases key _ _ h with ⟨p, hp, rfl⟩ | h
  · exact .inl (List.of_mem_zip (List.mem_of_mem_take hp)).2
  · exact .inr h
theorem natf_done {ss : List (List Int)} (h : ∀ s ∈ ss, OrdOk s) : NatF (fun _ xs => doneIt ss xs) := ⟨fun zs => doneIt_map _ ss zs, fun _ _ hx => doneIt_mem hx, fun zs => doneIt_len h zs⟩
theorem natf_back {ss : List (List Int)} : NatF (fun _ xs => backIt ss xs) := ⟨fun zs => backIt_map _ ss zs, fun _ _ hx => (setN_mem hx).elim id id, fun _ => backIt_len⟩
end

section
open PySem PySem.Spec PyProof.Rows L2
open Evl (Ex)
def phDone : Phi := fun ds M P _ => ∃ (ss : List (List Int)) (t : D), ds = [.scr (ssD ss), t] ∧ StepsOk ss ∧ TxtK M t P (fun _ xs => doneIt ss xs)
theorem ok_done {m : Md} {f : Addr} {fd : FuncData} {k : Nat} (F : Fun m.K "done" "done" S_done f fd) (F1 : Fd m CX0 k "done_items" phDnI) (F2 : Fd m CX0 k "like" phLike) (S : ClsS m) (m3 : m.mg "list" = none) :
    FnOk m.P m.w m.K m.mg m.base CX0 (k + 1) f fd A_done (spOf m.G phDone) := by
  refine fn_ok F sc_done (fun ds M P R h => by obtain ⟨s, x, rfl, _⟩ := h; rfl) (fun c ds M P R hc o hl h => ?_)
  subst hc
  obtain ⟨ss, t, rfl, hs, h⟩ := h
  obtain ⟨xs, ht, hxl, hfin⟩ := txt_of (c := c) (natf_done hs.ords) h
  show Eb c [some (.scr (ssD ss)), some t] M _ _
  refine sq_ret ?_
  refine b_cons' (by rfl) ?_
  repeat walk_at "x"
  refine c_listTx ht fun a => ?_
  repeat walk_at "x"
  refine ⟨ss, _, xs, rfl, fun s h => ⟨hs.ords s h, by have := (hs.2 s h).2.1; omega⟩, .inl (.own (.head _)), hxl, fun b => ?_⟩
  repeat walk_at "x"
  exact hfin b _ _ (.cons _ (.refl _))
end

section
open PySem PySem.Spec PyProof.Rows L2
open Evl (Ex)
def phBack : Phi := fun ds M P _ => ∃ (ss : List (List Int)) (t : D), ds = [.scr (ssD ss), t] ∧ StepsOk ss ∧ TxtK M t P (fun _ xs => backIt ss xs)
theorem rg_nat5 (n : Nat) : (rgI 0 n).map PyData.int = (List.range n).map fun i : Nat => PyData.int i := by
  unfold rgI
  rw [List.map_map, show ((n : Int) - 0).toNat = n by omega]
  exact List.map_congr_left fun i _ => by simp
theorem ok_back {m : Md} {f : Addr} {fd : FuncData} {k : Nat} (F : Fun m.K "back" "back" S_back f fd) (F1 : Fd m CX0 k "done_items" phDnI) (F2 : Fd m CX0 k "like" phLike) (S : ClsS m) (m3 : m.mg "list" = none) (m4 : m.mg "len" = none) (m5 : m.mg "range" = none) (m6 : m.mg "enumerate" = none) :
    FnOk m.P m.w m.K m.mg m.base CX0 (k + 1) f fd A_back (spOf m.G phBack) := by
  refine fn_ok F sc_back (fun ds M P R h => by obtain ⟨s, x, rfl, _⟩ := h; rfl) (fun c ds M P R hc o hl h => ?_)
  subst hc
  obtain ⟨ss, t, rfl, hs, h⟩ := h
  obtain ⟨xs, ht, hxl, hfin⟩ := txt_of (c := c) natf_back h
  have hperm := perm_doneR hs.ords xs.length
  show Eb c [some (.scr (ssD ss)), some t, none, none, none, none, none] M _ _
  refine sq_ret ?_
  refine b_cons' (by rfl) ?_
  repeat walk_at "x"
  refine c_lenTx ht ?_
  repeat walk_at "x"
  refine ⟨⟨by omega, by omega⟩, fun a => ?_⟩
  rw [rg_nat5]
  repeat walk_at "x"
  refine ⟨ss, _, _, rfl, fun s h => ⟨hs.ords s h, by have := (hs.2 s h).2.1; omega⟩, .inl (.own (.head _)), by simp; omega, fun b => ?_⟩
  rw [doneIt_map]
  refine sq_conv (M2 := (b, Cell.lst ((doneIt ss (List.range xs.length)).map fun i : Nat => PyData.int i)) :: M) (Conv.sub (.cons_cons _ (.cons _ (.refl _)))) ?_
  repeat walk_at "x"
  refine c_listTx ht.cons fun e => ?_
  repeat walk_at "x"
  refine i_enumL o m6 rfl rfl ?_
  repeat walk_at "x"
  refine ⟨_, _, rfl, .own (.tail _ (.head _)), ?_⟩
  have hnd := nodup_doneR hs.ords xs.length
  have hnl : (doneIt ss (List.range xs.length)).length = xs.length := by rw [hperm.length_eq, List.length_range]
  have hnlt : ∀ n ∈ doneIt ss (List.range xs.length), n < xs.length := fun n hn => List.mem_range.mp (hperm.mem_iff.mp hn)
  have hbk : backIt ss xs = setN (doneIt ss (List.range xs.length)) xs xs xs.length := rfl
  generalize doneIt ss (List.range xs.length) = ns at hnd hnl hnlt hbk
  rw [List.length_map, hnl]
  refine ⟨fun i Γ' M' => ∃ y z, Γ' = [some (.scr (ssD ss)), some t, some (dI xs.length), some (.own b), some (.own e), y, z] ∧ M' = (e, Cell.lst (setN ns xs xs i)) :: (b, Cell.lst (ns.map fun i : Nat => PyData.int i)) :: M, ⟨_, _, rfl, by simp [setN]⟩, fun i Γ' M' hi hj => ?_, fun i Γ' M' hi hj => ?_, fun Γ' M' hj => ?_⟩
  · obtain ⟨y, z, rfl, rfl⟩ := hj
    exact .own (.tail _ (.head _))
  · obtain ⟨y, z, rfl, rfl⟩ := hj
    have hni : ns[i]? = some (ns[i]'(by omega)) := List.getElem?_eq_getElem (by omega)
    have hxi : xs[i]? = some xs[i] := List.getElem?_eq_getElem hi
    have hlt := hnlt _ (List.getElem_mem (show i < ns.length by omega))
    have hst := setN_succ (ys := xs) hni hxi
    dsimp only
    rw [getD_map (show i < ns.length by omega)]
    generalize ns[i]'(by omega) = n at hni hlt hst
    repeat walk_at "x"
    refine ox_tx (ht.cons.cons) hxi ?_
    repeat walk_at "x"
    refine ⟨e, n, n, 0, rfl, rfl, .inl ⟨_, xs[i], rfl, rfl, by rw [setN_len]; exact hlt, .inl rfl, ?_⟩⟩
    repeat walk_at "x"
    refine ⟨_, _, rfl, ?_⟩
    rw [hst]; rfl
  · obtain ⟨y, z, rfl, rfl⟩ := hj
    rw [← hbk]
    repeat walk_at "x"
    exact hfin e _ _ (.cons _ (.refl _))
end

section
open PySem PySem.Spec PyProof.Rows L2
open Evl (Ex)
def phRdBy : Phi := fun ds M P _ => ∃ (s : List Int) (t : D), ds = [.p (sD s), t] ∧ OrdOk s ∧ s.length ≤ 100 ∧ TxtK M t P (fun _ xs => rdIt s xs)
theorem natf_rd {s : List Int} (h : OrdOk s) : NatF (fun _ xs => rdIt s xs) := ⟨fun zs => rdIt_map _ s zs, fun _ _ hx => pickI_mem hx, fun zs => rdIt_len h zs⟩
theorem ok_readBy {m : Md} {f : Addr} {fd : FuncData} {k : Nat} (F : Fun m.K "read_by" "read_by" S_read_by f fd) (F1 : Fd m CX0 k "read_items" phRdI) (F2 : Fd m CX0 k "like" phLike) (m3 : m.mg "list" = none) :
    FnOk m.P m.w m.K m.mg m.base CX0 (k + 1) f fd A_read_by (spOf m.G phRdBy) := by
  refine fn_ok F sc_read_by (fun ds M P R h => by obtain ⟨s, x, rfl, _⟩ := h; rfl) (fun c ds M P R hc o hl h => ?_)
  subst hc
  obtain ⟨s, t, rfl, hs, hsl, h⟩ := h
  obtain ⟨xs, ht, hxl, hfin⟩ := txt_of (c := c) (natf_rd hs) h
  show Eb c [some (.p (sD s)), some t] M _ _
  refine sq_ret ?_
  refine b_cons' (by rfl) ?_
  repeat walk_at "x"
  refine c_listTx ht fun a => ?_
  repeat walk_at "x"
  refine ⟨s, _, xs, rfl, hs, hsl, .inl (.own (.head _)), hxl, fun b => ?_⟩
  repeat walk_at "x"
  exact hfin b _ _ (.cons _ (.refl _))
end

section
open PySem PySem.Spec PyProof.Rows L2
open Evl (Ex)
theorem Fd.mono {m : Md} {CX : CXT} {j k : Nat} {x : Str} {φ : Phi} (F : Fd m CX j x φ) (h : j ≤ k) : Fd m CX k x φ := by
  obtain ⟨f, fd, ps, h1, h2⟩ := F.ex
  exact ⟨f, fd, ps, h1.mono h, h2⟩
theorem FnA.mono {m : Md} {j k : Nat} {f : Addr} {φ : Phi} (F : FnA m j f φ) (h : j ≤ k) : FnA m k f φ := by
  obtain ⟨fd, ps, h1, h2⟩ := F.ex
  exact ⟨fd, ps, h1.mono h, h2⟩
theorem MkS.mono {m : Md} {j k : Nat} {φ : Phi} (F : MkS m j φ) (h : j ≤ k) : MkS m k φ := by
  obtain ⟨f, h1, h2⟩ := F.ex
  exact ⟨f, h1, h2.mono h⟩
theorem PrS.mono {m : Md} {j k : Nat} {x : Str} {φ : Phi} (F : PrS m j x φ) (h : j ≤ k) : PrS m k x φ := by
  obtain ⟨p, f, h1, h2⟩ := F.ex
  exact ⟨p, f, h1, h2.mono h⟩
theorem SpS.mono {m : Md} {j k : Nat} {x : Str} {φ : Phi} (F : SpS m j x φ) (h : j ≤ k) : SpS m k x φ := by
  obtain ⟨f, h1, h2, h3⟩ := F.ex
  exact ⟨f, h1, h2, h3.mono h⟩
def phLaw : Phi := fun ds M P _ => ∃ ns : List Int, ds = [.scp ns] ∧ ns.length ≤ 63 ∧ ∀ M', P (dB true) M'
end

section
open PySem PySem.Spec PyProof.Rows L2
open Evl (Ex)
def phAreA : Phi := fun ds M P _ => ∃ s1 s2 : List (List Int), ds = [.scr (ssD s1), .scr (ssD s2)] ∧ StepsOk s1 ∧ StepsOk s2 ∧ P (dB (decide (ordsN s1 = ordsN s2))) M
theorem ok_areAlike {m : Md} {f : Addr} {fd : FuncData} {k : Nat} (F : Fun m.K "are_alike" "are_alike" S_are_alike f fd) (F2 : Fd m CX0 k "orders_of" phOrds) (S : ClsS m) (F3 : PrS m (k - 1) "wide" phWide) (hk : 1 ≤ k) :
    FnOk m.P m.w m.K m.mg m.base CX0 (k + 1) f fd A_are_alike (spOf m.G phAreA) := by
  refine fn_ok F sc_are_alike (fun ds M P R h => by obtain ⟨s1, s2, rfl, _⟩ := h; rfl) (fun c ds M P R hc o hl h => ?_)
  subst hc
  obtain ⟨s1, s2, rfl, h1, h2, p⟩ := h
  show Eb c [some (.scr (ssD s1)), some (.scr (ssD s2))] M _ _
  refine b_cons' (by rfl) ?_
  repeat walk_at "x"
  refine ⟨⟨_, rfl⟩, s1, rfl, h1, ?_⟩
  repeat walk_at "x"
  refine ⟨⟨_, rfl⟩, s2, rfl, h2, ?_⟩
  repeat walk_at "x"
  refine ⟨fun hw => ?_, fun hw => ?_⟩
  · repeat walk_at "x"
    refine ⟨s1, rfl, h1, ?_⟩
    repeat walk_at "x"
    refine ⟨s2, rfl, h2, ?_⟩
    exact oe_c ssC _ _ (.p _) (.p _) rfl p
  · have hne : ordsN s1 ≠ ordsN s2 := fun z => of_decide_eq_false hw (by rw [← ordsN_len, ← ordsN_len, z])
    rw [decide_eq_false hne] at p
    exact p
end

section
open PySem PySem.Spec PyProof.Rows L2
open Evl (Ex)
def exch (ss : List (List Int)) (i : Nat) : List (List Int) := ss.take i ++ ss.getD (i + 1) [] :: ss.getD i [] :: ss.drop (i + 2)
def exIdx (ss : List (List Int)) : List Nat := (List.range (ss.length - 1)).filter fun i => decide (ordsN ss = ordsN (exch ss i))
theorem exch_ok {ss : List (List Int)} (hs : StepsOk ss) {i : Nat} (hi : i + 1 < ss.length) : StepsOk (exch ss i) := by
  have hl3 := hs.1
  refine ⟨by unfold exch; rw [List.length_append, List.length_cons, List.length_cons, List.length_take, List.length_drop]; omega, fun s h => ?_⟩
  unfold exch at h
  rw [getD_at (show i + 1 < ss.length by omega), getD_at (show i < ss.length by omega)] at h
  rcases List.mem_append.mp h with h | h
  · exact hs.2 s (List.mem_of_mem_take h)
  · rcases List.mem_cons.mp h with rfl | h
    · exact hs.2 _ (List.getElem_mem _)
    · rcases List.mem_cons.mp h with rfl | h
      · exact hs.2 _ (List.getElem_mem _)
      · exact hs.2 s (List.mem_of_mem_drop h)
def phExch : Phi := fun ds M P _ => ∃ ss : List (List Int), ds = [.scr (ssD ss)] ∧ StepsOk ss ∧ ∀ a, P (.own a) ((a, .lst ((exIdx ss).map natI)) :: M)
theorem ok_exch {m : Md} {f : Addr} {fd : FuncData} {k : Nat} (F : Fun m.K "exchangeable" "exchangeable" S_exchangeable f fd) (F1 : Fd m CX0 k "are_alike" phAreA) (FS : MkS m (k - 1) (phInit m.C)) (S : ClsS m) (h1 : 1 ≤ k) (m1 : m.mg "len" = none) (m2 : m.mg "range" = none) :
    FnOk m.P m.w m.K m.mg m.base CX0 (k + 1) f fd A_exchangeable (spOf m.G phExch) := by
  refine fn_ok F sc_exchangeable (fun ds M P R h => by obtain ⟨s, rfl, _⟩ := h; rfl) (fun c ds M P R hc o hl h => ?_)
  subst hc
  obtain ⟨ss, rfl, hs, p⟩ := h
  have hl3 := hs.1
  show Eb c [some (.scr (ssD ss)), none, none, none, none] M _ _
  refine b_cons' (by rfl) ?_
  repeat walk_at "x"
  refine e_lstO ?_
  repeat walk_at "x"
  intro b
  repeat walk_at "x"
  refine ⟨_, _, rfl, ?_⟩
  show Eb c [some (.scr (ssD ss)), some (.own b), some (.p (ssD ss)), none, none] _ _ _
  repeat walk_at "x"
  rw [List.length_map]
  refine ⟨⟨by omega, by omega⟩, ?_⟩
  rw [show ((ss.length : Int) - 1).toNat = ss.length - 1 by omega]
  refine ⟨fun i Γ' M' => ∃ y z, Γ' = [some (.scr (ssD ss)), some (.own b), some (.p (ssD ss)), y, z] ∧ M' = (b, Cell.lst (((List.range i).filter fun i => decide (ordsN ss = ordsN (exch ss i))).map natI)) :: M, ⟨_, _, rfl, rfl⟩, fun _ _ _ _ _ => trivial, fun i Γ' M' hi hj => ?_, fun Γ' M' hj => ?_⟩
  · obtain ⟨y, z, rfl, rfl⟩ := hj
    have hex := exch_ok hs (i := i) (by omega)
    have hg0 : (ss.map sD)[i]? = some (sD (ss.getD i [])) := by rw [List.getElem?_map, List.getElem?_eq_getElem (by omega), getD_at (by omega)]; rfl
    have hg1 : (ss.map sD)[i + 1]? = some (sD (ss.getD (i + 1) [])) := by rw [List.getElem?_map, List.getElem?_eq_getElem (by omega), getD_at (by omega)]; rfl
    have hflen : ((List.range i).filter fun i => decide (ordsN ss = ordsN (exch ss i))).length ≤ 3 := Nat.le_trans (List.length_filter_le _ _) (by simp; omega)
    have hsucc : (List.range (i + 1)).filter (fun i => decide (ordsN ss = ordsN (exch ss i))) = (List.range i).filter (fun i => decide (ordsN ss = ordsN (exch ss i))) ++ if ordsN ss = ordsN (exch ss i) then [i] else [] := by
      rw [List.range_succ, List.filter_append]
      congr 1
      by_cases h : ordsN ss = ordsN (exch ss i)
      · rw [if_pos h]; simp [h]
      · rw [if_neg h]; simp [h]
    repeat walk_at "x"
    refine st_take rfl ?_
    refine ⟨_, .inr rfl, ?_⟩
    repeat walk_at "x"
    refine ox_tup hg1 (.inl (by omega)) ?_
    repeat walk_at "x"
    refine ox_tup hg0 (.inl rfl) ?_
    repeat walk_at "x"
    refine st_drop (n := i + 2) (by omega) ?_
    refine ⟨_, .inr rfl, ?_⟩
    repeat walk_at "x"
    refine ⟨(exch ss i).map sD, allQ ?_, by rw [List.length_map]; exact Nat.ble_eq_true_of_le (by have := hex.1; omega), ?_⟩
    · unfold exch
      rw [← List.map_take, ← List.map_drop]
      simp
    repeat walk_at "x"
    intro x dx
    refine ⟨x, dx, exch ss i, _, rfl, rfl, hex, rfl, 0, _, rfl, ?_⟩
    repeat walk_at "x"
    refine ⟨ss, exch ss i, rfl, hs, hex, ?_⟩
    repeat walk_at "x"
    refine ⟨fun hz => ?_, fun hz => ?_⟩
    · rw [if_pos (of_decide_eq_true hz)] at hsucc
      repeat walk_at "x"
      refine ⟨b, _, rfl, .head _, ?_⟩
      repeat walk_at "x"
      refine ⟨0, _, _, rfl, rfl, by rw [List.length_map]; omega, ?_⟩
      repeat walk_at "x"
      refine ⟨_, _, rfl, ?_⟩
      rw [hsucc, List.map_append]; rfl
    · rw [if_neg (of_decide_eq_false hz), List.append_nil] at hsucc
      repeat walk_at "x"
      refine ⟨_, _, rfl, ?_⟩
      rw [hsucc]; rfl
  · obtain ⟨y, z, rfl, rfl⟩ := hj
    repeat walk_at "x"
    exact p b
end

section
open PySem PySem.Spec PyProof.Rows L2
open Evl (Ex)
def phSame : Phi := fun ds M P _ => ∃ (s1 s2 : List (List Int)) (n : Nat), ds = [.scr (ssD s1), .scr (ssD s2), dI n] ∧ StepsOk s1 ∧ StepsOk s2 ∧ n ≤ 1000 ∧ P (dB (decide (sameAt s1 s2 n))) M
theorem rg_nat (n : Nat) : (rgI 0 n).map PyData.int = (List.range n).map natI := by
  unfold rgI
  rw [List.map_map, show ((n : Int) - 0).toNat = n by omega]
  exact List.map_congr_left fun i _ => by simp [natI]
theorem StepsOk.o2 {ss : List (List Int)} (h : StepsOk ss) : ∀ s ∈ ss, OrdOk s ∧ s.length ≤ 100 := fun s hs => ⟨h.ords s hs, by have := (h.2 s hs).2.1; omega⟩
theorem ok_same {m : Md} {f : Addr} {fd : FuncData} {k : Nat} (F : Fun m.K "are_same" "are_same" S_are_same f fd) (F2 : Fd m CX0 k "done_items" phDnI) (S : ClsS m) (m1 : m.mg "list" = none) (m2 : m.mg "range" = none) :
    FnOk m.P m.w m.K m.mg m.base CX0 (k + 1) f fd A_are_same (spOf m.G phSame) := by
  refine fn_ok F sc_are_same (fun ds M P R h => by obtain ⟨s1, s2, n, rfl, _⟩ := h; rfl) (fun c ds M P R hc o hl h => ?_)
  subst hc
  obtain ⟨s1, s2, n, rfl, h1, h2, hn, p⟩ := h
  show Eb c [some (.scr (ssD s1)), some (.scr (ssD s2)), some (dI n), none] M _ _
  refine sq_ret ?_
  refine b_cons' (by rfl) ?_
  repeat walk_at "x"
  refine ⟨⟨by omega, by omega⟩, fun a => ?_⟩
  rw [rg_nat]
  repeat walk_at "x"
  refine ⟨s1, _, _, rfl, h1.o2, .inl (.own (.head _)), by simp; omega, fun b => ?_⟩
  repeat walk_at "x"
  refine ⟨s2, _, _, rfl, h2.o2, .inl (.own (.tail _ (.head _))), by simp; omega, fun e => ?_⟩
  rw [doneIt_map, doneIt_map]
  refine oe_c (lC nC) (doneIt s1 (List.range n)) (doneIt s2 (List.range n)) (.own (.tail _ (.head _))) (.own (.head _)) rfl ?_
  exact ⟨M, Conv.sub (.cons _ (.cons _ (.cons _ (.refl _)))), p⟩
end

section
open PySem PySem.Spec PyProof.Rows L2
open Evl (Ex)
def phPlIn : Phi := fun ds M P _ => ∃ (ss : List (List Int)) (n : Nat), ds = [.scr (ssD ss), dI n] ∧ StepsOk ss ∧ n ≤ 1000 ∧ ∀ a, P (.own a) ((a, .lst ((List.range n).map fun i => natI (plcS ss n i))) :: M)
theorem ok_placesIn {m : Md} {f : Addr} {fd : FuncData} {k : Nat} (F : Fun m.K "places_in" "places_in" S_places_in f fd) (F1 : Fd m CX0 k "done_items" phDnI) (S : ClsS m) (m1 : m.mg "list" = none) (m2 : m.mg "range" = none) (m6 : m.mg "enumerate" = none) :
    FnOk m.P m.w m.K m.mg m.base CX0 (k + 1) f fd A_places_in (spOf m.G phPlIn) := by
  refine fn_ok F sc_places_in (fun ds M P R h => by obtain ⟨s, x, rfl, _⟩ := h; rfl) (fun c ds M P R hc o hl h => ?_)
  subst hc
  obtain ⟨ss, n, rfl, hs, hn, p⟩ := h
  have ho := hs.ords
  show Eb c [some (.scr (ssD ss)), some (dI n), none, none, none] M _ _
  refine sq_ret ?_
  refine b_cons' (by rfl) ?_
  repeat walk_at "x"
  refine e_lst ?_
  repeat walk_at "x"
  refine om_lst (.p _) ⟨by omega, by omega⟩ (by simp; omega) fun a => ?_
  rw [Int.toNat_natCast, List.flatten_replicate_singleton]
  repeat walk_at "x"
  refine i_enumL o m6 rfl rfl ?_
  repeat walk_at "x"
  refine ⟨⟨by omega, by omega⟩, fun q => ?_⟩
  rw [rg_nat]
  repeat walk_at "x"
  refine ⟨ss, _, _, rfl, hs.o2, .inl (.own (.head _)), by simp; omega, fun b => ?_⟩
  rw [doneIt_map]
  repeat walk_at "x"
  have hperm := perm_doneR ho n
  have hnd := nodup_doneR ho n
  have hnl : (doneIt ss (List.range n)).length = n := by rw [hperm.length_eq, List.length_range]
  have hnlt : ∀ j ∈ doneIt ss (List.range n), j < n := fun j hj => List.mem_range.mp (hperm.mem_iff.mp hj)
  have hpl : ∀ i, i < n → (doneIt ss (List.range n))[plcS ss n i]? = some i := fun i hi => plcS_get ho hi
  generalize doneIt ss (List.range n) = ns at hnd hnl hnlt hpl
  refine ⟨_, _, rfl, .own (.head _), ?_⟩
  rw [List.length_map, hnl]
  refine ⟨fun i Γ' M' => ∃ y z, Γ' = [some (.scr (ssD ss)), some (dI n), some (.own a), y, z] ∧ M' = (b, Cell.lst (ns.map natI)) :: (q, Cell.lst ((List.range n).map natI)) :: (a, Cell.lst ((setN ns (List.range n) (List.replicate n 0) i).map natI)) :: M, ⟨_, _, rfl, by simp [setN]; exact .inr rfl⟩, fun i Γ' M' _ hj => ?_, fun i Γ' M' hi hj => ?_, fun Γ' M' hj => ?_⟩
  · obtain ⟨y, z, rfl, rfl⟩ := hj
    exact .own (.head _)
  · obtain ⟨y, z, rfl, rfl⟩ := hj
    have hni : ns[i]? = some (ns[i]'(by omega)) := List.getElem?_eq_getElem (by omega)
    have hlt := hnlt _ (List.getElem_mem (show i < ns.length by omega))
    have hst := setN_succ (xs := List.range n) (ys := List.replicate n 0) hni (List.getElem?_range hi)
    dsimp only
    rw [getD_map (show i < ns.length by omega)]
    generalize ns[i]'(by omega) = r at hni hlt hst
    unfold natI
    repeat walk_at "x"
    refine ⟨a, r, r, 2, rfl, rfl, .inl ⟨_, natI i, rfl, rfl, by rw [List.length_map, setN_len, List.length_replicate]; exact hlt, .inl rfl, ?_⟩⟩
    repeat walk_at "x"
    refine ⟨_, _, rfl, ?_⟩
    rw [hst, List.map_set]; rfl
  · obtain ⟨y, z, rfl, rfl⟩ := hj
    have hfin : setN ns (List.range n) (List.replicate n 0) n = (List.range n).map fun i => plcS ss n i := by
      apply List.ext_getElem?
      intro j
      by_cases hj : j < n
      · rw [setN_get hnd (by rw [hnl, List.length_range]) (fun q hq => by rw [List.length_replicate]; exact hnlt q hq) n (by rw [List.length_range]; exact Nat.le_refl _) (plcS ss n j) j (plcS ss n j) (plcS_lt ho hj) (hpl j hj) (List.getElem?_range (plcS_lt ho hj)), List.getElem?_map, List.getElem?_range hj]; rfl
      · rw [List.getElem?_eq_none (by rw [setN_len, List.length_replicate]; omega), List.getElem?_eq_none (by simp; omega)]
    rw [hfin, List.map_map]
    repeat walk_at "x"
    exact ⟨_, Conv.sub (.cons _ (.cons _ (.refl _))), p a⟩
end

section
open PySem PySem.Spec PyProof.Rows L2
open Evl (Ex)
def phPart : Phi := fun ds M P _ => ∃ s1 s2 : List (List Int), ds = [.scr (ssD s1), .scr (ssD s2)] ∧ StepsOk s1 ∧ StepsOk s2 ∧ (ordsN s1 = ordsN s2 → P dN M) ∧ (∀ n i : Nat, LPart s1 s2 n i → P (dT [.int n, .int i]) M)
theorem ok_parting {m : Md} {f : Addr} {fd : FuncData} {k : Nat} (F : Fun m.K "parting" "parting" S_parting f fd) (F1 : Fd m CX0 k "are_alike" phAreA) (F2 : Fd m CX0 k "are_same" phSame) (F3 : Fd m CX0 k "places_in" phPlIn) (m2 : m.mg "range" = none) :
    FnOk m.P m.w m.K m.mg m.base CX0 (k + 1) f fd A_parting (spOf m.G phPart) := by
  refine fn_ok F sc_parting (fun ds M P R h => by obtain ⟨s1, s2, rfl, _⟩ := h; rfl) (fun c ds M P R hc o hl h => ?_)
  subst hc
  obtain ⟨s1, s2, rfl, h1, h2, p0, p1⟩ := h
  have w1 := wide_le h1
  have w2 := wide_le h2
  show Eb c [some (.scr (ssD s1)), some (.scr (ssD s2)), none, none, none, none] M _ _
  refine sq_ret ?_
  refine b_cons' (by rfl) ?_
  repeat walk_at "x"
  refine ⟨s1, s2, rfl, h1, h2, ?_⟩
  repeat walk_at "x"
  refine ⟨fun hz => ?_, fun hz => ?_⟩
  · repeat walk_at "x"
    exact ⟨M, Conv.refl, p0 (of_decide_eq_true hz)⟩
  have hz := of_decide_eq_false hz
  obtain ⟨N0, hN, hNp⟩ := part_bound h1.ords h2.ords hz
  obtain ⟨n, hnN, hp, hleast⟩ := least_of (p := fun n => ¬ sameAt s1 s2 n) hNp
  have hn : n ≤ 1000 := by omega
  obtain ⟨i, hi, hsi, hil⟩ := sign_of h1.ords h2.ords hp
  have hL : LPart s1 s2 n i := ⟨hp, fun m hm => Classical.byContradiction (hleast m hm), hi, hsi, hil⟩
  repeat walk_at "x"
  refine s_while o (fun m Γ' M' => ∃ q : Nat, m = n - q ∧ q ≤ n ∧ Γ' = [some (.scr (ssD s1)), some (.scr (ssD s2)), some (dI q), none, none, none] ∧ M' = M) ⟨n, 0, rfl, Nat.zero_le _, rfl, rfl⟩ ?_
  rintro m Γ' M' ⟨q, rfl, hq, rfl, rfl⟩
  repeat walk_at "x"
  refine ⟨s1, s2, q, rfl, h1, h2, by omega, ?_⟩
  repeat walk_at "x"
  refine ⟨fun hs => ?_, fun hs => ?_⟩
  · have hs := of_decide_eq_true hs
    have hqn : q ≠ n := fun z => hp (by rw [← z]; exact hs)
    repeat walk_at "x"
    exact ⟨n - (q + 1), by omega, q + 1, rfl, by omega, rfl, rfl⟩
  · have hs := of_decide_eq_false hs
    obtain rfl : q = n := by
      rcases Nat.lt_or_ge q n with z | z
      · exact absurd (hL.least q z) hs
      · omega
    repeat walk_at "x"
    refine ⟨s1, q, rfl, h1, hn, fun a => ?_⟩
    repeat walk_at "x"
    refine ⟨s2, q, rfl, h2, hn, fun b => ?_⟩
    repeat walk_at "x"
    refine ⟨_, _, rfl, ?_⟩
    repeat walk_at "x"
    refine e_lcF [("sign", 5)] o rfl (fun _ => rfl) ?_
    repeat walk_at "x"
    refine ⟨⟨by omega, by omega⟩, ?_⟩
    rw [Int.toNat_natCast]
    refine ⟨fun j => decide (plcS s1 q j ≠ plcS s2 q j), natI, by omega, fun _ _ => trivial, fun j acc e hj X1 o1 => ?_, fun e => ?_⟩
    · repeat walk_at "x"
      intro X2 o2
      repeat walk_at "x"
      refine ox_lst (.own (.tail _ (.tail _ (.head _)))) (j := j) (p := natI (plcS s1 q j)) (by rw [List.getElem?_map, List.getElem?_range hj]; rfl) (.inl rfl) ?_
      repeat walk_at "x"
      refine ox_lst (.own (.tail _ (.head _))) (j := j) (p := natI (plcS s2 q j)) (by rw [List.getElem?_map, List.getElem?_range hj]; rfl) (.inl rfl) ?_
      unfold natI
      refine on_int ?_
      refine ⟨_, rfl, ?_, rfl, fun _ X3 o3 => ?_⟩
      · rw [Bool.eq_iff_iff]; simp only [decide_not, Bool.not_eq_true', decide_eq_false_iff_not, Int.natCast_inj]
      · repeat walk_at "x"
        exact ⟨rfl, rfl⟩
    obtain ⟨r, hr⟩ := filter_head (t := fun j => decide (plcS s1 q j ≠ plcS s2 q j)) hi (decide_eq_true hsi) (fun j hj => decide_eq_false (fun z => z (hil j hj)))
    rw [hr]
    repeat walk_at "x"
    refine ox_lst (.own (.head _)) (j := 0) (p := natI i) rfl (.inl rfl) ?_
    repeat walk_at "x"
    exact ⟨M', Conv.sub (.cons _ (.cons _ (.cons _ (.refl _)))), p1 q i hL⟩
end

section
open PySem PySem.Spec PyProof.Rows L2
open Evl (Ex)
theorem ok_alikeS {m : Md} {f : Addr} {fd : FuncData} {k : Nat} (F : Fun m.K "alike" "alike" S_alike f fd) (F2 : Fd m CX0 k "are_alike" phAreA) :
    FnOk m.P m.w m.K m.mg m.base CX0 (k + 1) f fd A_alike (spOf m.G phAreA) := by
  refine fn_ok F sc_alike (fun ds M P R h => by obtain ⟨s1, s2, rfl, _⟩ := h; rfl) (fun c ds M P R hc o hl h => ?_)
  subst hc
  obtain ⟨s1, s2, rfl, h1, h2, p⟩ := h
  show Eb c [some (.scr (ssD s1)), some (.scr (ssD s2))] M _ _
  refine b_cons' (by rfl) ?_
  repeat walk_at "x"
  exact ⟨s1, s2, rfl, h1, h2, p⟩
end

section
open PySem PySem.Spec PyProof.Rows L2
open NdefX (NF NScope CellsAt startF envF ncx inv_startN)
open Evl (Ex)
section
open PySem.W
variable {prog : Program} {w : World} {A : Around} {E : Value → Shared → Prop} {h : Heap} {g : Array GenState} {d : Drawn} {t : Nat} {os : OsState}
variable {nm q : Str} {C N : Addr} {bs bm : List Value} {hdct : Bool} {sn : List Str} {sub : List Value} {ab : Bool} {col : Option Bool} {dd : Option Addr} {k0 k1 k2 k3 k5 : Option Value}
theorem call_mw {u e t0 : Addr} {rest : List Value} {Q : Value → Shared → Prop}
    (hC : h.get? C = some (excClassObj nm q C N bs bm hdct sn sub ab col dd k0 k1 k2 k3 k5 "ValueError.__new__")) (he : h.get? e = some (HandSPX.excO C t0)) (hu : h.get? u = some (kxs_mw "ValueError.__init__" e)) (hrest : rest.length ≤ sizeLine)
    (hq : ∀ h' t1, (∀ b o, b ≠ e → h.get? b = some o → h'.get? b = some o) → h'.get? e = some (HandSPX.excO C t1) → Q .none ⟨h', g, d, t, os⟩) :
    wpAny (model prog w) A (call (.ref u) rest) Q E ⟨h, g, d, t, os⟩ := by
  refine wpAny_call (codeAny_of_tree ?_)
  show wpAny _ A.in1 (callAny (.ref u) ⟨rest, []⟩) _ _ _
  simp only [callAny]
  refine wpAny_bind (wpAny_load hu ?_)
  simp only [kxs_mw, show (Value.type "method-wrapper" == Value.type "method" || Value.type "method-wrapper" == Value.type "builtin_function_or_method" || Value.type "method-wrapper" == Value.type "method-wrapper") = true by decide, if_true]
  refine KFB.if_so (by decide) ?_
  refine wpAny_bind (check_bound_init F.excBase_ValueError.toExcCallFacts hC he rfl ?_)
  refine wpAny_bind (wpAny_pure (wpAny_pure ?_))
  refine ⟨plainId_quiet F.excBase_ValueError.init.plain _, codeAny_builtin F.excBase_ValueError.initEntry ?_⟩
  exact exc_init_tree (cls := .ref C) (t0 := t0) (dv := none) (c2 := .none) (c3 := .none) (b4 := .bool false) he hrest fun h' k e' _ => hq h' _ k e'
end
structure SupF (K : PySem.W.Frag) (prog : Program) (F : NF) (f C cc : Addr) (x0 : Str) : Prop where
  fo : ∃ oc od sl doc pm ctv, K.lookup f = some ⟨oc, od, .func (F.fd doc pm ctv), sl⟩
  head : ∃ ar, (F.params.posonlyargs ++ F.params.args).head? = some ar ∧ ar.arg = x0
  cl : F.cl = [(("__class__" : Str), cc)]
  code : ∃ ccl cdd vs ccs file tf, K.lookup F.c = some ⟨ccl, cdd, .fields vs, ccs⟩ ∧ vs[2]? = some (.str file tf) ∧ (prog.main.file == file) = true
  cell : ∃ c1 c2 c3, K.lookup cc = some ⟨c1, c2, .cell (some (.ref C)), c3⟩
  cls : ∃ cd, PySem.W.clsIn K C = some cd
  sub : PySem.W.mroIn K C (.ref C) = some true
  opq : PySem.W.nsIn K PySem.cStatics "thirdparty.any" = some none
  init : PySem.W.ks_superIn K C C "__init__" = some (some (.builtin "ValueError.__init__"))
  isV : PySem.W.subIn K (.ref C) (.type "ValueError") = some true
  main : (prog.main.scope.names.lookup ("super" : Str)).isSome = false
  kind : F.scope.kind = .function
  ks : F.scope.names.lookup ("super" : Str) = some .globalImplicit
  kc : F.scope.names.lookup ("__class__" : Str) = some .free
  ka : F.scope.names.lookup x0 = some .local
section
variable {X : Cx} {F : NF} {f C cc a : Addr} {x0 : Str} {pins : List (Addr × Obj)} {σ : L2.St} {H : Hp} {s : Shared} {body : List Stmt} {msg : Str} {k : Nat} {p0 p1 p2 p3 p4 p5 : Pos}
theorem super_at (I : Inv X pins σ H s) (U : SupF X.K X.prog F f C cc x0) (T : OexC X.K C) {L : Addr} (hE : X.env = envF F f L) (hm : X.mg "super" = none) (hN : X.N[0]? = some x0) (hσ : σ[0]? = some (some (.ref a))) (ea : H a = some (exo a C none)) {pl : Sem Bool}
    (hev : eval (.Call (.Attribute (.Call (.Name "super" p0) [] [] p1) "__init__" p2) [.Constant (.str msg) k p3] [] p4) X.env = (do
      let ov ← attributeBase (.Call (.Name "super" p0) [] [] p1) "__init__" X.env (eval (.Call (.Name "super" p0) [] [] p1) X.env)
      standAt p2.atName
      let (f, first) ← holding [ov] (getMethod ov "__init__" pl)
      callWith p4 f first (backTo p4 (starEach [.Constant (.str msg) k p3] X.env)) [])) :
    PySem.wpAt (model X.prog X.w) X.A (.func body X.env) (exec (.Expr (.Call (.Attribute (.Call (.Name "super" p0) [] [] p1) "__init__" p2) [.Constant (.str msg) k p3] [] p4) p5) X.env) (fun fl s' => fl = .next ∧ Inv X pins σ H s') X.xe s := by
  obtain ⟨oc, od, sl, doc, pm, ctv, hf⟩ := U.fo
  obtain ⟨ar, har, hx0⟩ := U.head
  obtain ⟨ccl, cdd, vs, ccs, file, tf, hco, hvs, hfile⟩ := U.code
  obtain ⟨c1, c2, c3, hcell⟩ := U.cell
  obtain ⟨cd, hcd⟩ := U.cls
  obtain ⟨nm, q, N, bs, bm, sn, sub, ab, col, dd, k0, k1, k2, k3, k5, hC, hbm⟩ := T.cls
  have KX := I.kIn
  obtain ⟨t0, ho⟩ := exo_at I.hok ea
  obtain ⟨m, hns, hloc⟩ := I.loc
  have hka : X.env.scope.names.lookup x0 = some .local := by rw [hE]; exact U.ka
  obtain ⟨u, ru, hu⟩ := hloc 0 x0 (.ref a) hN hσ (.inl hka)
  obtain rfl : u = Value.ref a := ru
  have hself : m x0 = some (.ref a) := by
    rcases hu with ⟨_, z⟩ | ⟨z, _⟩
    · exact z
    · have z1 : X.env.kindOf x0 = some .local := hka
      rw [z1] at z; rcases z with z | z <;> cases z
  have hkind : X.env.scope.kind = .function := by rw [hE]; exact U.kind
  have hks : X.env.kindOf "super" = some .globalImplicit := by rw [hE]; exact U.ks
  have hkc : X.env.kindOf "__class__" = some .free := by rw [hE]; exact U.kc
  have hint : interactive X.env = false := by unfold interactive; rw [hkind]; rfl
  obtain ⟨mb, hb1, hb2⟩ := I.mod.blt
  have IA : PySem.W.InstAt s.heap a ⟨.ref C, none, .fields #[.ref t0, .none, .none, .none, .bool false, .none], #[]⟩ C none := ⟨ho, rfl, rfl, trivial⟩
  refine PySem.ks_wpAt_Expr_any ?_ hint rfl
  refine PySem.ks_wpAt_MethodCall (pl := pl) ?_ hev
  obtain ⟨hp, gs, dr, tk, os⟩ := s
  refine PySem.ks_wpAt_super_base (f := f) (cc := F.c) hks hkc (by decide) (by rw [hE]) (KX _ _ hf) rfl har (by rw [hE]) (KX _ _ hco) rfl hvs hfile U.main ?_
  refine PySem.W.ks_loadName_global hkind hks (Calls.loadGlobal_builtin (by rw [I.ok.glob]; exact I.mod.glob.keeps I.bk) hm (by rw [I.ok.blt]; exact hb1.keeps I.bk) ((hb2 "super" (by decide)).trans (show bootBuiltins "super" = some (.type "super") by first | rfl | kernel_rfl)) ⟨rfl, ?_⟩)
  refine wpAny_loadName_free (c := cc) hkind hkc (by rw [hE]; show F.cl.lookup _ = _; rw [U.cl]; rfl) ⟨_, KX _ _ hcell, rfl⟩ ?_
  rw [hx0]
  refine wpAny_loadName_local hkind hka hns hself ?_
  refine PySem.ks_wpAny_isType_cls (KX _ _ hC) rfl ⟨rfl, ?_⟩
  refine PySem.ks_wpAny_call_super (KX _ _ hC) rfl ho rfl (fun c z => by cases z) (PySem.W.looks_mroIn KX U.sub) fun h1 e1 kk1 => ?_
  have KX1 : X.K.In h1 := KX.keeps kk1
  have IA1 : PySem.W.InstAt h1 a ⟨.ref C, none, .fields #[.ref t0, .none, .none, .none, .bool false, .none], #[]⟩ C none := ⟨kk1 _ _ ho, rfl, rfl, trivial⟩
  have hf1 : PySem.W.alongIn X.K "__init__" ((cd.mro.dropWhile (· != .ref C)).drop 1) = some (some (.builtin "ValueError.__init__")) := by
    have z := U.init
    unfold PySem.W.ks_superIn at z
    rw [hcd] at z; exact z
  refine PySem.W.kxs_getMethod PySem.W.kxs_ValueError e1 (PySem.W.looks_opaque KX1 U.opq) (l₀ := cd.mro) (fun A Q E s k q => wpAny_bind ((PySem.W.looks_clsIn KX1 hcd) A _ E s k (wpAny_pure q))) rfl KX1 hf1
    (IA1.type.andThen (PySem.W.looks_subIn KX1 U.isV)) (PySem.W.ks_ne KX1 IA1 hcd) (by decide) ?_
  have hu1 : (h1.push (PySem.W.kxs_mw "ValueError.__init__" a)).get? h1.objs.size = some (PySem.W.kxs_mw "ValueError.__init__" a) := Heap.get?_push_at rfl rfl
  show wpAny _ _ (callWith p4 (.ref h1.objs.size) [] (backTo p4 (starEach [.Constant (.str msg) k p3] X.env)) []) _ _ _
  rw [show starEach [Expr.Constant (.str msg) k p3] X.env = (false, eval (.Constant (.str msg) k p3) X.env) :: starEach [] X.env from rfl]
  refine PySem.W.kxs_callWith (i := "ValueError.__init__") (x := a) rfl (Calls.evalArgs_plain (Calls.spliced_cons (Calls.Constant_str (k := k) (pos := p3) ?_)))
  refine Calls.spliced_nil ⟨hu1, ?_⟩
  refine call_mw (Heap.get?_push_of_some _ (kk1 _ _ (KX _ _ hC))) (Heap.get?_push_of_some _ (kk1 _ _ ho)) hu1 (show 1 ≤ sizeLine by rw [sizeLine_eq]; decide) fun h' t1 kk2 hx => ?_
  have J := I.write (t' := tk + 1 + 1) (x := a) (e := a) (o := exo a C none) (h' := h') (by rw [ea]; exact True.intro) (.inl rfl) (fun b o hb z => kk2 b o hb (Heap.get?_push_of_some _ (kk1 _ _ z))) ⟨_, hx⟩ (exo_ok hx)
  have eu : upd H a (exo a C none) = H := by
    funext b
    by_cases hb : b = a
    · rw [hb, upd_same, ea]
    · rw [upd_ne hb]
  rw [eu] at J
  exact ⟨rfl, J⟩
end
theorem fn_super {CX : CXT} {P : Program} {w : World} {K : PySem.W.Frag} {mg : Str → Option Value} {base : Heap} {N ps : List Str} {F : NF} {f C cc : Addr} {x0 : Str} {k j : Nat} {sp : Sp} {doc pm ctv oc : Value} {od : Option Addr} {sl : Array (Option Value)}
    {rest : List Stmt} {msg : Str} {p0 p1 p2 p3 p4 p5 : Pos} {pl : Sem Bool} (lk : K.lookup f = some ⟨oc, od, .func (F.fd doc pm ctv), sl⟩) (hcd : PySem.W.codeIn K (.ref F.c) F.qual = true) (S : NScope N ps ["__class__"] F.scope) (U : SupF K P F f C cc x0) (T : OexC K C)
    (hm : mg "super" = none) (hN : N[0]? = some x0) (hF : F.body = (.Expr (.Call (.Attribute (.Call (.Name "super" p0) [] [] p1) "__init__" p2) [.Constant (.str msg) j p3] [] p4) p5) :: rest)
    (hev : ∀ env : Env, eval (.Call (.Attribute (.Call (.Name "super" p0) [] [] p1) "__init__" p2) [.Constant (.str msg) j p3] [] p4) env = (do
      let ov ← attributeBase (.Call (.Name "super" p0) [] [] p1) "__init__" env (eval (.Call (.Name "super" p0) [] [] p1) env)
      standAt p2.atName
      let (f, first) ← holding [ov] (getMethod ov "__init__" pl)
      callWith p4 f first (backTo p4 (starEach [.Constant (.str msg) j p3] env)) []))
    (len : ∀ vs H Q E, sp vs H Q E → vs.length = ps.length)
    (hbody : ∀ (A : Around) (outer : List Env) (s : Shared) (H : Hp) (vs : List V) (Q : VK) (E : XK), Room k (A.deeper (envF F f s.heap.objs.size)) → sp vs H Q E → (∃ a vr, vs = .ref a :: vr ∧ H a = some (exo a C none)) ∧
      ∃ t, PSs (ncx CX P w K mg base N F f A outer s H E) rest t ∧ t { nx := fun _ H' => Q .non H', rt := Q } (startF N vs [some (.ref C)]) H) :
    FnOk P w K mg base CX (k + 1) f (F.fd doc pm ctv) ps sp := by
  refine ⟨len, fun A outer s H args us vs Q E hr e0 hb r hsp => ?_⟩
  have KX : K.In s.heap := e0.mod.kin.keeps fun b o e => (e0.bs b o e).1
  have lim : s.heap.NoLimit := e0.mod.nolimit.keeps fun b o e => (e0.bs b o e).1
  have hl := len _ _ _ _ hsp
  obtain ⟨c1, c2, c3, hcell⟩ := U.cell
  obtain ⟨⟨a, vr, rfl, ea⟩, t, ht, hq⟩ := hbody A outer s H vs Q E (hr.deeper _) hsp
  refine PySem.ks_codeAny_call_defAt (fd := F.fd doc pm ctv) (body := F.body) (binds := ps.zip us) hr.depth (KX _ _ lk) rfl lim (PySem.W.codeRec_of KX hcd) rfl hb S.nocell (fun x hx => S.par x.1 (List.of_mem_zip hx).1) (fun h₁ hns kp => ?_) S.co S.gen S.kind
  have CA : CellsAt F.cl ["__class__"] [some (V.ref C)] s.heap H := by
    have look : ∀ y c, F.cl.lookup y = some c → y = "__class__" ∧ c = cc := fun y c z => by
      rw [U.cl, List.lookup_cons] at z
      by_cases hy : y = "__class__"
      · subst hy; rw [beq_self_eq_true] at z; exact ⟨rfl, (Option.some.inj z).symm⟩
      · rw [show (y == ("__class__" : Str)) = false from beq_eq_false_iff_ne.mpr hy] at z; cases z
    refine ⟨rfl, fun y c z => ?_, fun x y c z1 z2 => ?_, fun i y hy => ?_⟩
    · obtain ⟨_, rfl⟩ := look y c z
      exact ⟨(e0.bs _ _ (e0.mod.kin _ _ hcell)).2, _, _, KX _ _ hcell, rfl⟩
    · rw [(look x c z1).1, (look y c z2).1]
    · cases i with
      | zero =>
        obtain rfl : ("__class__" : Str) = y := Option.some.inj hy
        refine ⟨cc, by rw [U.cl]; rfl, fun v hv => ?_⟩
        obtain rfl : V.ref C = v := Option.some.inj (Option.some.inj hv)
        exact ⟨.ref C, rfl, _, KX _ _ hcell, rfl⟩
      | succ i => cases i <;> cases hy
  have I : Inv (ncx CX P w K mg base N F f A outer s H E) [] (startF N (.ref a :: vr) [some (.ref C)]) H { s with heap := h₁, toks := s.toks + (ps.zip us).length } := inv_startN S hr.hd e0 hl r CA hns kp
  show PySem.wpAt (model P w) (ncx CX P w K mg base N F f A outer s H E).A (.func F.body (ncx CX P w K mg base N F f A outer s H E).env) (execs F.body (ncx CX P w K mg base N F f A outer s H E).env) _ (ncx CX P w K mg base N F f A outer s H E).xe _
  have st := super_at (body := F.body) (k := j) (p5 := p5) I U T (L := s.heap.objs.size) rfl hm hN rfl ea (hev _)
  generalize hbd : F.body = bd at st ⊢
  rw [hF] at hbd
  subst hbd
  refine PySem.ks_wpAt_execs_cons (PySem.ks_wpAt_mono st (fun fl s' z => ?_) fun _ _ z => z)
  obtain ⟨rfl, J⟩ := z
  refine PySem.wpAt_of_wpAny (wpAny_mono (ht.run [] s' _ H _ J hq) (fun fl s' hs => ?_) fun e s' hs => hs)
  have fin : ∀ {σ' : L2.St} {H' : Hp} {v : V} {u : Value}, Inv (ncx CX P w K mg base N F f A outer s H E) [] σ' H' s' → L2.RelV v u → Q v H' → CE outer P w H s Q u s' :=
    fun {σ' H' v u} J rv q => ⟨v, H', J.os, J.bare, J.base, J.hok, rv, q⟩
  cases fl with
  | ret u =>
    obtain ⟨v, σ', H', J, rv, q⟩ := hs
    exact fin J rv q
  | next =>
    obtain ⟨σ', H', J, q⟩ := hs
    exact fin (v := V.non) (u := Value.none) J rfl q
  | brk =>
    obtain ⟨_, _, _, q⟩ := hs
    exact False.elim q
  | cont =>
    obtain ⟨_, _, _, q⟩ := hs
    exact False.elim q
section
variable {X : Cx} {pins : List (Addr × Obj)} {σ : L2.St} {x : Str} {e : Expr} {es : List Expr} {ta : TA} {p pos : Pos} {C f : Addr} {fd : FuncData} {ps : List Str} {k : Nat} {sp : Sp}
theorem mk_endN {H1 H2 : Hp} {Q : XK} {hp hp2 h2 : Heap} {g1 g2 : Array GenState} {d1 d2 : Drawn} {t1 t2 : Nat} {os1 os2 : OsState} {a C : Addr} (T : Raises X (.ref C)) (I1 : Inv X pins σ H1 ⟨hp, g1, d1, t1, os1⟩)
    (ha : hp.objs.size ≤ a) (k : ∀ b o, hp.get? b = some o → hp2.get? b = some o) (un : Un (frs X.stack) [] (upd H1 a (exo a C none)) H2 hp2 h2) (hok : HOk X.prog X.w H2 h2) (ho : os2 = os1) (hb : AllBare g2)
    (ea : H2 a = some (exo a C none)) (q : Q (.ref C) none (del H2 a)) : MkP X pins σ Q (.ref a) ⟨h2, g2, d2, t2, os2⟩ := by
  obtain ⟨t0, hoe⟩ := exo_at hok ea
  have hn : H1 a = none := I1.hok.fresh ha
  obtain ⟨G, g1', g2'⟩ := restrict h2 fun b => decide (b ≠ a)
  have gk : ∀ b, b ≠ a → G.get? b = h2.get? b := fun b hb => g1' b (decide_eq_true hb)
  have ge : G.get? a = none := g2' a (by simp)
  have nha : ∀ {b : Addr} {o : Obj}, hp.get? b = some o → b ≠ a := fun {b o} z => Nat.ne_of_lt (Nat.lt_of_lt_of_le (Heap.lt_size z) ha)
  have up : ∀ {b : Addr}, b ≠ a → H1 b = none → upd H1 a (exo a C none) b = none := fun {b} hb n => by rw [upd_ne hb]; exact n
  have U : Un (frs X.stack) [] H1 (del H2 a) hp G := {
    keep := fun b o z n hf hx => by rw [gk b (nha z)]; exact un.keep b o (k b o z) (up (nha z) n) hf hx
    slot := fun b o z n hf hx => by rw [gk b (nha z)]; exact un.slot b o (k b o z) (up (nha z) n) hf hx
    free := fun b o z n hx => by rw [del_ne (nha z)]; exact un.free b o (k b o z) (up (nha z) n) hx
    there := fun b o z hx => by rw [gk b (nha z)]; exact un.there b o (k b o z) hx
    tups := fun b xs z => by rw [del_ne (ne_of_none z hn)]; exact un.tups b xs (by rw [upd_ne (ne_of_none z hn)]; exact z)
    frzs := fun b o v z => by rw [del_ne (ne_of_none z hn)]; exact un.frzs b o v (by rw [upd_ne (ne_of_none z hn)]; exact z)
    tbls := fun b ps z => by rw [del_ne (ne_of_none z hn)]; exact un.tbls b ps (by rw [upd_ne (ne_of_none z hn)]; exact z) }
  have hok3 : HOk X.prog X.w (del H2 a) G := fun b o z => by
    have hba : b ≠ a := fun e => by rw [e, del_same] at z; cases z
    rw [del_ne hba] at z
    have noa : ∀ {c : Addr}, H2 c = some (.own b) → c ≠ a := fun {c} hc => at_ne ea hc exo_own
    exact (hok b o z).stay (fun c v hc y => by
        have hca : c ≠ a := by
          rcases hc with hc | hc
          · rw [hc]; exact hba
          · exact noa hc
        rw [gk c hca]; exact y)
      (fun c hc => by rw [del_ne (noa hc)]; exact hc) (fun c xs hc => by rw [del_ne (at_ne ea hc exo_tup)]; exact hc)
  have J : Inv X pins σ (del H2 a) ⟨G, g2, d2, t2, os2⟩ := I1.call' (ch := []) ho U hok3 hb (fun b z => absurd z (by simp))
  refine ⟨a, _, _, ⟨G, g2, d2, t2, os2⟩, _, .ref C, none, rfl, J, fun b o z => ?_, ge, hoe, ⟨rfl, rfl⟩, rfl, rfl, del_same, rfl, hb, T, q⟩
  by_cases hba : b = a
  · rw [hba, ge] at z; cases z
  · exact (gk b hba).symm.trans z
def spMk (C : Addr) (sp : Sp) (vs : List V) (H1 : Hp) (Q : XK) : Prop := vs.length ≤ 1000 ∧ ∀ a, H1 a = none → sp (.ref a :: vs) (upd H1 a (exo a C none))
  (fun v H2 => v = .non ∧ ((H2 a = some (exo a C none) ∧ Q (.ref C) none (del H2 a)) ∨ ∃ (d : Addr) (fs : List (Str × V)), H2 a = some (exo a C (some d)) ∧ H2 d = some (exd d fs) ∧ H1 d = none ∧ Q (.ref C) (some d) (upd (del H2 a) d (.xd fs)))) (fun _ _ _ => False)
theorem make_err (T : OexC X.K C) (iC : PySem.W.findIn X.K (.ref C) "__init__" = some (some (.ref f))) (tI : PySem.W.typeIn X.K (.ref f) = some (.type "function"))
    (F1 : FnOk X.prog X.w X.K X.mg X.base CX0 k f fd ps sp) (hr : Room (k + 1) X.A) (hb : Binds X.K fd ps []) {vs : List V} {us : List Value} {H1 : Hp} {s1 : Shared} {Q : XK} (I1 : Inv X pins σ H1 s1) (r1 : Vals vs us) (q1 : spMk C sp vs H1 Q) :
    wpAny (model X.prog X.w) X.A (call (.ref C) us) (MkP X pins σ Q) X.xe s1 := by
  obtain ⟨nm, q, N, bs, bm, sn, sub, ab, col, dd, k0, k1, k2, k3, k5, hC, hbm⟩ := T.cls
  obtain ⟨hz, q1⟩ := q1
  obtain ⟨hp, g, dr, tk, os⟩ := s1
  have hsz : hp.objs.size ≤ hp.objs.size + 1 := Nat.le_succ _
  have hn : H1 (hp.objs.size + 1) = none := I1.hok.fresh hsz
  have hq := q1 (hp.objs.size + 1) hn
  have kk : ∀ b o, hp.get? b = some o → ((hp.push (PySem.W.kdv_tup us)).push (PySem.HandSPX.excO C hp.objs.size)).get? b = some o := fun b o e => Heap.get?_push_of_some _ (Heap.get?_push_of_some _ e)
  have hget : ((hp.push (PySem.W.kdv_tup us)).push (PySem.HandSPX.excO C hp.objs.size)).get? (hp.objs.size + 1) = some (PySem.HandSPX.excO C hp.objs.size) := by heap_get
  have I2 : Inv X pins σ (upd H1 (hp.objs.size + 1) (exo (hp.objs.size + 1) C none)) ⟨(hp.push (PySem.W.kdv_tup us)).push (PySem.HandSPX.excO C hp.objs.size), g, dr, tk, os⟩ :=
    I1.laid (t' := tk) (a := hp.objs.size + 1) (o := exo (hp.objs.size + 1) C none) (h' := (hp.push (PySem.W.kdv_tup us)).push (PySem.HandSPX.excO C hp.objs.size)) kk hsz (exo_ok hget)
  have r2 : Vals (V.ref (hp.objs.size + 1) :: vs) (Value.ref (hp.objs.size + 1) :: us) := .cons rfl r1
  have hl : (Value.ref (hp.objs.size + 1) :: us ++ []).length = ps.length := by
    have e := r2.length
    rw [F1.len _ _ _ _ hq] at e
    rw [List.append_nil]; exact e.symm
  have hus : us.length ≤ sizeLine := by
    rw [← Paired.length r1, sizeLine_eq]; omega
  refine wpAny_call (PySem.HandSPX.call_own F.excBase_ValueError (fun Y => PySem.HandSPX.refsVE_contains Y bm hbm) (I1.kIn _ _ hC) (PySem.W.looks_findIn I1.kIn iC) (fun self => PySem.W.bind_fn I1.kIn self tI) hus
    (codeAny_mono (F1.run _ X.stack _ _ ⟨Value.ref (hp.objs.size + 1) :: us, []⟩ (Value.ref (hp.objs.size + 1) :: us) _ _ (fun _ _ _ => False) (hr.make C us []) (I2.env0.make C us []) (by have z := hb _ (Value.ref (hp.objs.size + 1) :: us) I2.kIn hl; rwa [List.append_nil] at z) r2 hq) fun r s' hq' => ?_))
  cases r with
  | error er => exact False.elim hq'
  | ok fl =>
    cases fl with
    | ret u =>
      obtain ⟨v, H2, os2, bare2, un2, hok2, rv, ev, q2⟩ := hq'
      subst ev
      obtain ⟨h2, g2, d2, t2, os'⟩ := s'
      rcases q2 with ⟨ea, q2⟩ | ⟨d, fs, ea, ed, hd1, q2⟩
      · exact ⟨rv, mk_endN (raises_own T.exC T.tyC) I1 hsz kk un2 hok2 os2 bare2 ea q2⟩
      · exact ⟨rv, mk_end (raises_own T.exC T.tyC) I1 hsz kk un2 hok2 os2 bare2 ea ed hd1 q2⟩
    | next => exact False.elim hq'
    | brk => exact False.elim hq'
    | cont => exact False.elim hq'
theorem pmk_err (T : OexC X.K C) (iC : PySem.W.findIn X.K (.ref C) "__init__" = some (some (.ref f))) (tI : PySem.W.typeIn X.K (.ref f) = some (.type "function"))
    (F1 : FnOk X.prog X.w X.K X.mg X.base CX0 k f fd ps sp) (hr : Room (k + 1) X.A) (hb : Binds X.K fd ps []) (hg : Gl X x) (hm : X.mg x = some (.ref C)) (ha : PA X (e :: es) ta) (hdb : (x == ("__debug__" : Str)) = false)
    (he : starEach (e :: es) X.env = (false, eval e X.env) :: starEach es X.env) (hpl : (backTo pos (starEach es X.env)).any (·.1) = false) :
    PMk X (.Call (.Name x p) (e :: es) [] pos) (fun σ H Q => ta σ H fun vs H1 => spMk C sp vs H1 Q) := by
  intro pins s σ H Q I h
  refine wpAny_Call_Name_kw (ld_glob I hg hm ?_ hdb)
  exact PySem.W.callWith_K (h₀ := X.base) I.ok.mod.kin T.kC (thn (ha.run pos pins s σ H _ I h) fun us s1 ⟨vs, H1, I1, r1, q1⟩ => ⟨I1.kIn, make_err T iC tI F1 hr hb I1 r1 q1⟩) he hpl
theorem pmk_err0 (T : OexC X.K C) (iC : PySem.W.findIn X.K (.ref C) "__init__" = some (some (.ref f))) (tI : PySem.W.typeIn X.K (.ref f) = some (.type "function"))
    (F1 : FnOk X.prog X.w X.K X.mg X.base CX0 k f fd ps sp) (hr : Room (k + 1) X.A) (hb : Binds X.K fd ps []) (hg : Gl X x) (hm : X.mg x = some (.ref C)) (hdb : (x == ("__debug__" : Str)) = false) :
    PMk X (.Call (.Name x p) [] [] pos) (fun _ H Q => spMk C sp [] H Q) := by
  intro pins s σ H Q I h
  refine wpAny_Call_Name_kw (ld_glob I hg hm ?_ hdb)
  exact PySem.W.callWith_K0 I.kIn T.kC (make_err T iC tI F1 hr hb I .nil h)
end
def sp0 (C : Addr) : Sp := fun vs H Q _ => ∃ a, vs = [.ref a] ∧ H a = some (exo a C none) ∧ Q .non H
def sp1 (C : Addr) (fld : Str) : Sp := fun vs H Q _ => ∃ a y, vs = [.ref a, y] ∧ H a = some (exo a C none) ∧ ∀ dx, H dx = none → dx ≠ a → Q .non (upd (upd H dx (exd dx [(fld, y)])) a (exo a C (some dx)))
structure ErrK (m : Md) (k : Nat) (x : Str) (C : Addr) (sp : Sp) : Prop where
  ex : ∃ (f : Addr) (fd : FuncData) (ps : List Str), OexC m.K C ∧ PySem.W.findIn m.K (.ref C) "__init__" = some (some (.ref f)) ∧ PySem.W.typeIn m.K (.ref f) = some (.type "function") ∧ FnOk m.P m.w m.K m.mg m.base CX0 k f fd ps sp ∧ Binds m.K fd ps [] ∧ m.mg x = some (.ref C)
section
variable {m : Md} {F : NF} {f C cc : Addr} {x0 x1 fld : Str} {k j : Nat} {doc pm ctv oc : Value} {od : Option Addr} {sl : Array (Option Value)} {msg : Str} {p0 p1 p2 p3 p4 p5 q1 q2 q3 q4 : Pos} {pl : Sem Bool}
theorem ok_err0 (lk : m.K.lookup f = some ⟨oc, od, .func (F.fd doc pm ctv), sl⟩) (hcd : PySem.W.codeIn m.K (.ref F.c) F.qual = true) (S : NScope [x0, "__class__"] [x0] ["__class__"] F.scope) (U : SupF m.K m.P F f C cc x0) (T : OexC m.K C) (hm : m.mg "super" = none)
    (hF : F.body = [.Expr (.Call (.Attribute (.Call (.Name "super" p0) [] [] p1) "__init__" p2) [.Constant (.str msg) j p3] [] p4) p5])
    (hev : ∀ env : Env, eval (.Call (.Attribute (.Call (.Name "super" p0) [] [] p1) "__init__" p2) [.Constant (.str msg) j p3] [] p4) env = (do
      let ov ← attributeBase (.Call (.Name "super" p0) [] [] p1) "__init__" env (eval (.Call (.Name "super" p0) [] [] p1) env)
      standAt p2.atName
      let (f, first) ← holding [ov] (getMethod ov "__init__" pl)
      callWith p4 f first (backTo p4 (starEach [.Constant (.str msg) j p3] env)) [])) :
    FnOk m.P m.w m.K m.mg m.base CX0 (k + 1) f (F.fd doc pm ctv) [x0] (sp0 C) :=
  fn_super lk hcd S U T hm rfl hF hev (fun vs H Q E h => by obtain ⟨a, rfl, _⟩ := h; rfl) fun A outer s H vs Q E hr h => by
    obtain ⟨a, rfl, h1, h2⟩ := h
    exact ⟨⟨a, [], rfl, h1⟩, _, pss_nil, h2⟩
theorem ok_err1 (lk : m.K.lookup f = some ⟨oc, od, .func (F.fd doc pm ctv), sl⟩) (hcd : PySem.W.codeIn m.K (.ref F.c) F.qual = true) (S : NScope [x0, x1, "__class__"] [x0, x1] ["__class__"] F.scope) (U : SupF m.K m.P F f C cc x0) (T : OexC m.K C) (hm : m.mg "super" = none)
    (hno : PySem.W.findIn m.K (.ref C) fld = some none) (hk1 : F.scope.names.lookup x1 = some .local) (hd0 : (x0 == ("__debug__" : Str)) = false) (hd1 : (x1 == ("__debug__" : Str)) = false) (hc0 : (x0 == ("__classdict__" : Str)) = false) (hc1 : (x1 == ("__classdict__" : Str)) = false)
    (hF : F.body = [.Expr (.Call (.Attribute (.Call (.Name "super" p0) [] [] p1) "__init__" p2) [.Constant (.str msg) j p3] [] p4) p5, .Assign [.Attribute (.Name x0 q1) fld q2] (.Name x1 q3) q4])
    (hsw : ∀ env : Env, swapsWith (.Name x1 q3) (some (.Attribute (.Name x0 q1) fld q2)) q4.line env = pure false)
    (hev : ∀ env : Env, eval (.Call (.Attribute (.Call (.Name "super" p0) [] [] p1) "__init__" p2) [.Constant (.str msg) j p3] [] p4) env = (do
      let ov ← attributeBase (.Call (.Name "super" p0) [] [] p1) "__init__" env (eval (.Call (.Name "super" p0) [] [] p1) env)
      standAt p2.atName
      let (f, first) ← holding [ov] (getMethod ov "__init__" pl)
      callWith p4 f first (backTo p4 (starEach [.Constant (.str msg) j p3] env)) [])) :
    FnOk m.P m.w m.K m.mg m.base CX0 (k + 1) f (F.fd doc pm ctv) [x0, x1] (sp1 C fld) :=
  fn_super lk hcd S U T hm rfl hF hev (fun vs H Q E h => by obtain ⟨a, y, rfl, _⟩ := h; rfl) fun A outer s H vs Q E hr h => by
    obtain ⟨a, y, rfl, h1, h2⟩ := h
    refine ⟨⟨a, [y], rfl, h1⟩, _, pss_one (ps_ost (pe_var (i := 0) rfl (.inl U.ka) hd0 hc0) (pe_var (i := 1) rfl (.inl hk1) hd1 hc1) (hsw _)), ?_⟩
    exact ⟨y, rfl, .ref a, rfl, a, C, rfl, T, hno, .inl ⟨h1, fun dx z1 z2 => h2 dx z1 z2⟩⟩
end
section
variable {c : Cd} {N : List Str} {sc : Scope} {k j : Nat} {Γ : Gx} {M : Mem} {P : D → Mem → Prop} {A : List D → Mem → Prop} {nx_ : Gx → Mem → Prop} {rt_ : D → Mem → Prop} {bk_ ct_ : Gx → Mem → Prop} {e a b : Expr} {x fld : Str} {C : Addr} {p pos pos' : Pos}
theorem s_raise0 (E : ErrK c.m j x C (sp0 C)) (o : c.Ok N sc k) (hj : j + 1 ≤ k) (hg : sc.names.lookup x = some .globalImplicit) (hx : (x == ("__debug__" : Str)) = false) (h : c.R C [] Γ M) :
    Es c Γ M (.Raise (some (.Call (.Name x p) [] [] pos)) none pos') ⟨nx_, rt_, bk_, ct_⟩ := by
  obtain ⟨f, fd, ps, T, iC, tI, F1, hb, hm⟩ := E.ex
  have F' : FnOk c.X.prog c.X.w c.X.K c.X.mg c.X.base CX0 j f fd ps (sp0 C) := by rw [o.prog, o.ew, o.K, o.mg, o.base]; exact F1
  refine s_of (ps_raise o.calm o.tk (pmk_err0 (by rw [o.K]; exact T) (by rw [o.K]; exact iC) (by rw [o.K]; exact tI) F' (o.room.mono hj) (by rw [o.K]; exact hb) (gl_of o hg) (by rw [o.mg]; exact hm) hx)) fun σ H H1 Q tr sl r => ?_
  refine ⟨by simp, fun q hq => ⟨q, rfl, upd_same, rfl, .inl ⟨upd_same, ?_⟩⟩⟩
  have eq : del (upd H1 q (exo q C none)) q = H1 := by
    funext b
    by_cases hb : b = q
    · rw [hb, del_same, hq]
    · rw [del_ne hb, upd_ne hb]
  rw [eq]
  exact o.hR C [] Γ M σ H H1 _ _ h tr sl ⟨rfl, .inl ⟨rfl, rfl⟩⟩
theorem s_raise1 (E : ErrK c.m j x C (sp1 C fld)) (o : c.Ok N sc k) (hj : j + 1 ≤ k) (hg : sc.names.lookup x = some .globalImplicit) (hx : (x == ("__debug__" : Str)) = false)
    (he : starEach [e] c.X.env = (false, eval e c.X.env) :: starEach [] c.X.env) (h : Ee c Γ M e fun d M1 => ∃ y, d = .p y ∧ c.R C [(fld, y)] Γ M1) :
    Es c Γ M (.Raise (some (.Call (.Name x p) [e] [] pos)) none pos') ⟨nx_, rt_, bk_, ct_⟩ := by
  obtain ⟨f, fd, ps, T, iC, tI, F1, hb, hm⟩ := E.ex
  have F' : FnOk c.X.prog c.X.w c.X.K c.X.mg c.X.base CX0 j f fd ps (sp1 C fld) := by rw [o.prog, o.ew, o.K, o.mg, o.base]; exact F1
  refine s_of (ps_raise o.calm o.tk (pmk_err (by rw [o.K]; exact T) (by rw [o.K]; exact iC) (by rw [o.K]; exact tI) F' (o.room.mono hj) (by rw [o.K]; exact hb) (gl_of o hg) (by rw [o.mg]; exact hm) (pa_cons pe_sem pa_nil he) hx he rfl)) fun σ H H1 Q tr sl r => ?_
  refine h σ H H1 _ tr sl fun d M1 v H' H2 p1 tr1 e1 i1 => ?_
  obtain ⟨y, rfl, p1⟩ := p1
  refine ⟨by simp, fun q hq => ⟨q, v, rfl, upd_same, fun dx hdx hne => ⟨rfl, .inr ⟨dx, [(fld, v)], upd_same, by rw [upd_ne hne, upd_same], by rwa [upd_ne hne] at hdx, ?_⟩⟩⟩⟩
  have hdx2 : H2 dx = none := by rwa [upd_ne hne] at hdx
  have eq : upd (del (upd (upd (upd H2 q (exo q C none)) dx (exd dx [(fld, v)])) q (exo q C (some dx))) q) dx (.xd [(fld, v)]) = upd H2 dx (.xd [(fld, v)]) := by
    funext b
    by_cases h1 : b = dx
    · rw [h1, upd_same, upd_same]
    · rw [upd_ne h1, upd_ne h1]
      by_cases h2 : b = q
      · rw [h2, del_same, hq]
      · rw [del_ne h2, upd_ne h2, upd_ne h1, upd_ne h2]
  rw [eq]
  have t2 := tr1.ok.new (o := .xd [(fld, v)]) hdx2
  exact o.hR C [(fld, y)] Γ M1 σ _ _ _ _ p1 (tr1.trans t2) (sl.mono (e1.trans t2.ex)) ⟨rfl, .inr ⟨dx, [(fld, v)], rfl, upd_same, .cons ⟨rfl, i1.mono t2.ex⟩ .nil⟩⟩
end
end

section
open PySem PySem.Spec PyProof.Rows L2
open Evl (Ex)
section
open PySem.W PySem.Calls
variable {prog : Program} {w : World} {A : Around} {E : Value → Shared → Prop} {s : Shared} {K : Frag} {x D : Addr} {ox : Obj} {od : Option Obj}
theorem find_data {C : Addr} {name : Str} {a g : Value} (hc : (clsIn K C).isSome = true) (ha : findIn K (.ref C) name = some (some a)) (hg : specialIn K a "__get__" = some (some g)) (ht : takesIn K a = some true) : findObj K C od name = some (.bind g a) := by
  obtain ⟨cd, hc⟩ := Option.isSome_iff_exists.mp hc
  unfold findObj
  rw [hc, Option.bind_some, ha, Option.bind_some]
  simp [hg, ht]
theorem class_of_err {Q : Option Value → Shared → Prop} (C : ExcC K D) (X : K.In s.heap) (I : PySem.W.InstAt s.heap x ox D od) (h : Q (some (.ref D)) { s with toks := s.toks + 1 }) : wpAny (model prog w) A (getAttr? (.ref x) "__class__") Q E s := by
  have hf : findObj K D od "__class__" = some (.bind (.builtin "getset_descriptor.__get__") (.builtin "object.__class__")) := find_data (by obtain ⟨cd, hc, _⟩ := any_some C.hd; rw [hc]; rfl) C.ha C.hn C.ht
  obtain ⟨hp, g, d, t, os⟩ := s
  have L0 := I.type (M := model prog w)
  have L1 := looks_findIn (M := model prog w) X C.hg
  have L2 := looks_findIn (M := model prog w) X C.hk
  have L3 := looks_find (M := model prog w) X I hf
  have sub : Looks (model prog w) hp (isInstance (.ref x) (.type "BaseException")) true := L0.andThen (looks_subIn X C.hs)
  have hx0 : (false && onTheHeap (Value.builtin "BaseException.__getattribute__")) = false := rfl
  have hx2 : (Value.builtin "BaseException.__getattribute__" == Value.builtin "object.__getattribute__") = false := by decide +kernel
  have hx1 : (onTheHeap (Value.ref D) && Value.builtin "BaseException.__getattribute__" == Value.builtin "object.__getattribute__") = false := by rw [hx2]; rfl
  unfold getAttr? getAttrBy? getAttrBy
  refine wpAny_bind (wpAny_mkText (wpAny_bind (wpAny_attempt (wpAny_holding (wpAny_bind (L0.at (wpAny_bind (L1.at ?_))))))))
  show wpAny _ _ (if (onTheHeap (Value.ref D) && Value.builtin "BaseException.__getattribute__" == Value.builtin "object.__getattribute__") = true then _ else _) _ _ _
  rw [hx1, if_neg Bool.false_ne_true]
  unfold getAttrByItsOwn hookBefore
  refine wpAny_bind ?_
  rw [if_pos (show onTheHeap (Value.ref D) = true from rfl)]
  refine L2.at ?_
  refine wpAny_bind (wpAny_attempt (wpAny_holding ?_))
  unfold callGetattribute
  rw [hx0, if_neg Bool.false_ne_true]
  unfold boundAndCalled
  rw [PySem.F.excAttr_ValueError.ga.bind (.ref x)]
  refine wpAny_bind (wpAny_pure ?_)
  show wpAny _ _ (call (.builtin "BaseException.__getattribute__") [.ref x, .str "__class__" t]) _ _ _
  refine wpAny_call (codeAny_call_builtin PySem.F.excAttr_ValueError.ga.plain PySem.F.entry_bexc_ga ?_)
  refine @check_slot (model prog w) _ _ ⟨hp, g, d, t + 1, os⟩ "BaseException.__getattribute__" "BaseException" "__getattribute__" (.ref x) [.str "__class__" t] [] _ (by decide +kernel) (by decide +kernel) sub (PySem.F.args_bexc_ga (.ref x) (.str "__class__" t)) ?_
  unfold Builtin.«object.__getattribute__»
  refine wpAny_bind (wpAny_of_eq (a := ((Value.ref x : Value), [Value.str "__class__" t])) (by first | rfl | (simp only [slotArgs]; rfl)) ?_)
  refine wpAny_bind (wpAny_pure (wpAny_bind (L0.at (wpAny_bind (L3.at ?_)))))
  show wpAny _ _ (holding [Value.builtin "object.__class__"] (call (.builtin "getset_descriptor.__get__") [.builtin "object.__class__", .ref x, .ref D]) >>= ret) _ _ _
  refine wpAny_bind (wpAny_holding (wpAny_call (class_get (s := ⟨hp, g, d, t + 1, os⟩) (ox := ox) (od := od) X I C.hm ?_)))
  refine wpAny_pure ?_
  show wpAny _ _ (handedOut (.ref D)) _ _ _
  rw [handedOut_of (v := .ref D) rfl]
  first
    | exact wpAny_pure (wpAny_pure h)
    | exact wpAny_pure h
    | exact wpAny_pure (wpAny_bind (wpAny_pure (wpAny_pure h)))
theorem kit_err (C : ExcC K D) : KitX K (.ref x) (.ref D) (fun h => ∃ od, PySem.W.InstAt h x ox D od) where
  ty := fun _ _ _ ⟨_, I⟩ => I.type
  it := fun _ _ X _ => by
    obtain ⟨cdD, hcD, _⟩ := any_some C.hd
    unfold clsIn at hcD
    split at hcD
    · rename_i c' d' cd' sl' ho
      intro A' Q' E' s' k q
      unfold isType loadHead
      exact wpAny_bind (wpAny_loadPart (k _ _ (X _ _ ho)) (wpAny_pure q))
    · cases hcD
  ne := (handS_kitx_exc (x := x) (ox := ox) C.hg C.hk C.hs C.hd C.ha C.hn C.ht C.hm).ne
  ca := fun X ⟨_, I⟩ k => class_of_err C X I k
end
theorem call_isErr {X : Cx} {a D : Addr} {oe : Obj} {d : Option Addr} {pn : List (Addr × Obj)} (C : ExcC X.K D) (hz : Zc (.ref D) d oe) (hf : ∃ vs, oe.data = .fields vs) :
    CallR (X.suite a ((a, oe) :: pn)) (.builtin "isinstance") (fun xs H Q => (d = none ∨ ∃ dd fs, d = some dd ∧ H dd = some (.xd fs)) ∧ rIsE X.K D a xs H Q) := by
  intro pins s σ H xs us Q I r h
  obtain ⟨hd, c, cv, b, rfl, hcv, e, q⟩ := h
  cases r with
  | cons rx rr =>
    cases rr with
    | cons rt rr =>
      cases rr
      cases rx
      have ec := hcv _ rt
      subst ec
      obtain ⟨hget, _⟩ := I.pin (a, oe) (List.mem_append.mpr (.inl List.mem_cons_self))
      obtain ⟨vs, hv⟩ := hf
      have J : ∃ od, PySem.W.InstAt s.heap a oe D od := by
        obtain ⟨oc, od, oda, osl⟩ := oe
        obtain ⟨h1, h2⟩ := hz
        dsimp only at h1 h2 hv
        subst h1 h2 hv
        rcases hd with rfl | ⟨dd, fs, rfl, hx⟩
        · exact ⟨none, hget, rfl, rfl, trivial⟩
        · obtain ⟨mA, hns, hr⟩ : ObjOk X.prog X.w H s.heap dd (.xd fs) := I.hok dd _ hx
          obtain ⟨od', ho, hl⟩ := lookIn_ns hns
          exact ⟨some od', hget, rfl, rfl, ho⟩
      exact PySem.W.kia_one (kit_err C) I.kIn J e (fun z => nomatch z) fun tk => ⟨.bl b, H, I.kept (t' := tk) fun _ _ z => z, rfl, q⟩
theorem fn_okT {m : Md} {x qual : Str} {st : Stmt} {f : Addr} {fd : FuncData} {N ps : List Str} {k : Nat} {φ : Phi} (F : Fun m.K x qual st f fd) (S : FnScope N ps (defScope st)) (len : ∀ ds M P R, φ ds M P R → ds.length = ps.length)
    (body : ∀ (c : Cd) (ds : List D) (M : Mem) (P : D → Mem → Prop) (R : Addr → List (Str × PyData) → Mem → Prop), c.m = m → c.Ok N (defScope st) k → c.lvl = true → c.X.stack = c.X.env :: c.X.outer → c.X.env.frame = some c.X.env.locals → φ ds M P R →
      Eb c (ds.map some ++ List.replicate (N.length - ds.length) none) M (defBody st) { nx := fun _ M' => P dN M', rt := P }) :
    FnOk m.P m.w m.K m.mg m.base CX0 (k + 1) f fd ps (spOf m.G φ) := by
  refine F.ok S (fun vs H Q E h => ?_) (fun cdv A outer s H vs Q E hr h => ?_)
  · obtain ⟨H0, M, ds, P, R, h1, h2, h3, h4, h5⟩ := h
    rw [h2.len]
    exact len _ _ _ _ h3
  · obtain ⟨H0, M, ds, P, R, h1, h2, h3, h4, h5⟩ := h
    refine ⟨_, pss_sem, ?_⟩
    refine body ⟨m, (cxOf CX0 m.P m.w m.K m.mg m.base N qual (defScope st) f cdv A outer s H E).nox, ⟨H0, H, M⟩, fun _ _ _ _ => False, fun _ _ _ _ => False, true⟩ ds M P R rfl ?_ rfl rfl rfl h3 _ H0 H _ (Tr.refl h1) (Slots.start h2) ?_
    · exact ⟨rfl, rfl, rfl, rfl, rfl, rfl, S.nd, rfl, rfl, fun _ _ => rfl, hr, PassesOwn.never, takes0, fun _ _ _ _ _ _ _ _ _ h => h.elim⟩
    · exact ⟨fun Γ M' σ H' H2 p tr _ sl => h4 dN M' .non H' H2 p tr Dq.non, fun d M' v H' H2 p tr _ i => h4 d M' v H' H2 p tr i, fun _ _ _ _ _ h => h.elim, fun _ _ _ _ _ h => h.elim⟩
def SuA (c : Cd) (i : Nat) (e : Expr) (C' : Addr) (fs : List (Str × PyData)) (Γ : Gx) (M : Mem) (P : D → Mem → Prop) : Prop :=
  ∀ (a : Addr) (oe : Obj) (cls : Value) (d : Option Addr) (pn : List (Addr × Obj)) (σ : L2.St) (H H1 : Hp) (Q : VK), Zc cls d oe → (∃ vs, oe.data = .fields vs) → ExAt c.G H H1 cls d C' fs → Tr c.G c.B H H1 M → Slots c.G H σ (Γ.set i (some (.own a))) → σ[i]? = some (some (.ref a)) →
    (∀ d' M' v H' H2, P d' M' → Tr c.G c.B H' H2 M' → Ex H H' → Is c.G H' v d' → Q v H2) → eSem (c.X.suite a ((a, oe) :: pn)) e σ H1 Q
theorem Slots.unset {G : Gm} {H : Hp} {σ : L2.St} {Γ : Gx} (h : Slots G H σ Γ) (i : Nat) : Slots G H (σ.set i none) (Γ.set i none) := by
  refine ⟨by simp [h.len], fun j x hx => ?_⟩
  by_cases e : i = j
  · subst e
    by_cases hl : i < Γ.length
    · rw [List.getElem?_set_self hl] at hx; cases hx
    · rw [List.getElem?_eq_none (by simpa using hl)] at hx; cases hx
  · rw [List.getElem?_set_ne e] at hx ⊢
    exact h.at_ j x hx
section
variable {c : Cd} {N : List Str} {sc : Scope} {k j : Nat} {Γ : Gx} {M : Mem} {P : D → Mem → Prop} {nx_ : Gx → Mem → Prop} {rt_ : D → Mem → Prop} {bk_ ct_ : Gx → Mem → Prop} {bd : List Stmt} {e a b : Expr} {x n v : Str} {C : Addr} {np pv p ps pos pos' : Pos} {i j : Nat}
abbrev RTry (c : Cd) (C : Addr) (i j : Nat) (e : Expr) (nx_ : Gx → Mem → Prop) : Rx := fun C' fs Γ M => ∃ b, PySem.W.exmOne c.m.K (.ref C') (.ref C) = some b ∧ (b = true → SuA c i e C' fs Γ M fun d M' => nx_ ((Γ.set j (some d)).set i none) M') ∧ (b = false → c.R C' fs Γ M)
theorem s_tryAs [hi : At N n i] [hj : At N v j] (o : c.Ok N sc k) (hs : c.X.stack = c.X.env :: c.X.outer) (hf : c.X.env.frame = some c.X.env.locals) (hne : i ≠ j) (hln : sc.names.lookup n = some .local) (hlv : L2.Loc sc v) (hfv : sc.names.lookup v = some .local ∨ c.lvl = true)
    (hg : sc.names.lookup x = some .globalImplicit) (hx : (x == ("__debug__" : Str)) = false) (hm : c.m.mg x = some (.ref C)) (hsw : swapsWith e (some (.Name v pv)) ps.line c.X.env = pure false)
    (body : ∀ c' : Cd, c'.m = c.m → c'.Ok N sc k → c'.lvl = c.lvl → c'.R = RTry c C i j e nx_ → Eb c' Γ M bd ⟨nx_, rt_, bk_, ct_⟩) :
    Es c Γ M (.Try bd [.ExceptHandler (some (.Name x np)) (some n) [.Assign [.Name v pv] e ps] pos'] [] [] pos) ⟨nx_, rt_, bk_, ct_⟩ := by
  intro σ H H1 E tr sl r pins s I
  refine (ps_try_as (X := c.X) (i := i) (c := .ref C) (tb := fun W D σ H => ∀ pn xe, Takes (c.X.tr pn xe) W → PassesOwn (model c.X.prog c.X.w) c.X.A c.X.env xe → bSem (c.X.tr pn xe) bd D σ H)
    (ts := fun a cls d D σ H => ∀ oe pn, Zc cls d oe → (∃ vs, oe.data = .fields vs) → bSem (c.X.suite a ((a, oe) :: pn)) [.Assign [.Name v pv] e ps] D σ H) (Wout := c.W) hs hf (by rw [o.hN]; exact o.nd) (by rw [o.hN]; exact hi.at_) (by show c.X.env.scope.names.lookup n = _; rw [o.esc]; exact hln)
    ⟨gl_of o hg, hx, .inl (by rw [o.mg]; exact hm)⟩ o.tk (fun W pn xe tk po => ⟨fun pins s σ H D I h => h pn xe tk po pins s I⟩) (fun a oe cls d pn z f => ⟨fun pins s σ H D I h => h oe pn z f pins s I⟩)).run pins s σ H1 E I ?_
  intro pn xe tk po
  refine body ⟨c.m, c.X.tr pn xe, ⟨H, H1, M⟩, _, RTry c C i j e nx_, c.lvl⟩ rfl ⟨o.prog, o.ew, o.K, o.mg, o.base, o.hN, o.nd, o.esc, o.calm, o.fn, o.room, po, tk, ?_⟩ rfl rfl σ H H1 E (Tr.refl tr.ok) sl
    ⟨fun Γ' M' σ' H' H2 q t e s' => r.nx Γ' M' σ' H' H2 q (tr.trans t) e s', fun d M' w H' H2 q t e i' => r.rt d M' w H' H2 q (tr.trans t) e i', fun Γ' M' σ' H' H2 q t e s' => r.bk Γ' M' σ' H' H2 q (tr.trans t) e s', fun Γ' M' σ' H' H2 q t e s' => r.ct Γ' M' σ' H' H2 q (tr.trans t) e s'⟩
  intro C' fs Γ' M' σ' H' H2 cls d hr t' sl' ex
  obtain ⟨b, hb, h1, h2⟩ := hr
  refine ⟨b, by rw [ex.1, o.K]; exact hb, fun z a' ha oe pn' hz hf' pins' s' I' => ?_, fun z => o.hR C' fs Γ' M' σ' H' H2 cls d (h2 z) (tr.trans t') sl' ex⟩
  have hlen : (σ'.set i (some (.ref a'))).length = N.length := by rw [← o.hN]; exact I'.len
  have hi' : i < N.length := (List.getElem?_eq_some_iff.mp hi.at_).1
  rw [List.length_set] at hlen
  have hσ : (σ'.set i (some (.ref a')))[i]? = some (some (V.ref a')) := List.getElem?_set_self (by omega)
  refine (pss_one (ps_set (X := c.X.suite a' ((a', oe) :: pn')) (i := j) (by show c.X.N.Nodup; rw [o.hN]; exact o.nd) (by show c.X.N[j]? = _; rw [o.hN]; exact hj.at_) (loc_of o hlv) pe_sem hsw (fn_of' o hfv))).run pins' s' _ _ _ I' ?_
  refine h1 z a' oe cls d pn' _ H' H2 _ hz hf' ex (tr.trans t') (sl'.set i (show Is c.G H' (V.ref a') (.own a') from rfl)) hσ fun d' M'' w H3 H4 p3 t3 e3 i3 => ?_
  refine r.nx _ M'' _ H3 H4 p3 t3 ((t'.ex).trans e3) ?_
  have sl3 := (((sl'.mono e3).set j i3).unset i)
  have eq1 : ((σ'.set i (some (V.ref a'))).set j (some w)).set i none = (σ'.set j (some w)).set i none := by
    rw [List.set_comm _ _ hne, List.set_set]
  show Slots _ _ (((σ'.set i (some (V.ref a'))).set j (some w)).set i none) _
  rw [eq1]; exact sl3
theorem su_str {s : Str} {q : Nat} (h : ∀ Γ', Γ' = Γ → P (dS s) M) {C' : Addr} {fs : List (Str × PyData)} : SuA c i (.Constant (.str s) q pos) C' fs Γ M P := fun a oe cls d pn σ H H1 Q hz hf ex tr sl hσ k =>
  pe_to pe_str (k _ M _ H H1 (h Γ rfl) tr (Evl.Ex.refl H) (Dq.str s))
theorem su_non {q : Nat} (h : P dN M) {C' : Addr} {fs : List (Str × PyData)} : SuA c i (.Constant .none q pos) C' fs Γ M P := fun a oe cls d pn σ H H1 Q hz hf ex tr sl hσ k =>
  pe_to pe_non (k _ M _ H H1 h tr (Evl.Ex.refl H) Dq.non)
theorem su_bl {b : Bool} {q : Nat} (h : P (dB b) M) {C' : Addr} {fs : List (Str × PyData)} : SuA c i (.Constant (.bool b) q pos) C' fs Γ M P := fun a oe cls d pn σ H H1 Q hz hf ex tr sl hσ k =>
  pe_to pe_bl (k _ M _ H H1 h tr (Evl.Ex.refl H) (Dq.bl b))
theorem paired_look {K : PySem.W.Frag} {H : Hp} {f : Str} {y : PyData} : ∀ {fs' : List (Str × V)} {fs : List (Str × PyData)}, Paired (fun (p : Str × V) (q : Str × PyData) => p.1 = q.1 ∧ Dq K H p.2 q.2) fs' fs → fs.lookup f = some y → ∃ v, fs'.lookup f = some v ∧ Dq K H v y
  | [], _, .nil, h => by cases h
  | (g, w) :: fs', (g2, z) :: fs, .cons ⟨e, d⟩ t, h => by
    obtain rfl : g = g2 := e
    rw [List.lookup_cons] at h ⊢
    by_cases hf : (f == g) = true
    · rw [hf] at h ⊢; cases h; exact ⟨w, rfl, d⟩
    · rw [Bool.not_eq_true] at hf; rw [hf] at h ⊢; exact paired_look t h
theorem su_fld [hi : At N n i] (o : c.Ok N sc k) (hv : Vis sc n) (hd : (n == ("__debug__" : Str)) = false) (hd2 : (n == ("__classdict__" : Str)) = false) {f : Str} {C' : Addr} {fs : List (Str × PyData)} {y : PyData} (T : XfC c.m.K C') (hno : PySem.W.findIn c.m.K (.ref C') f = some none)
    (hb : attributeBase (.Name n np) f c.X.env (eval (.Name n np) c.X.env) = eval (.Name n np) c.X.env) (hl : fs.lookup f = some y) (h : P (.p y) M) : SuA c i (.Attribute (.Name n np) f pos) C' fs Γ M P := fun a oe cls d pn σ H H1 Q hz hf ex tr sl hσ k => by
  refine pe_to (pe_xf (X := c.X) (C := C') (by rw [o.K]; exact T) (by rw [o.K]; exact hno) hz hf (pe_var (i := i) (by show c.X.N[i]? = _; rw [o.hN]; exact hi.at_) (vis_of o hv) hd hd2) hb) ?_
  obtain ⟨rfl, hx⟩ := ex
  rcases hx with ⟨rfl, _⟩ | ⟨dd, fs', rfl, h1, h2⟩
  · cases hl
  · obtain ⟨w, hw, dw⟩ := paired_look h2 hl
    exact ⟨_, hσ, rfl, rfl, dd, fs', w, rfl, h1, hw, k _ M w H H1 h tr (Evl.Ex.refl H) dw⟩
theorem su_isi [hi : At N n i] (o : c.Ok N sc k) (hv : Vis sc n) (hd : (n == ("__debug__" : Str)) = false) (hd2 : (n == ("__classdict__" : Str)) = false) {B : Str} {B' C' : Addr} {fs : List (Str × PyData)} {p1 p2 p3 : Pos} (T : ExcC c.m.K C')
    (hg1 : sc.names.lookup ("isinstance" : Str) = some .globalImplicit) (hm1 : c.m.mg "isinstance" = none) (hg2 : sc.names.lookup B = some .globalImplicit) (hm2 : c.m.mg B = some (.ref B')) (hB : (B == ("__debug__" : Str)) = false) (hk : PySem.W.kitOne c.m.K (.ref C') (.ref B') = some true)
    (he : ∀ whole, isTrue (.Call (.Name "isinstance" p1) [.Name n p2, .Name B p3] [] pos) c.X.env whole = (do let v ← whole; standAt (Expr.Call (.Name "isinstance" p1) [.Name n p2, .Name B p3] [] pos).pos; holding [v] (truthy v)))
    (hs1 : starEach [.Name n p2, .Name B p3] c.X.env = (false, eval (.Name n p2) c.X.env) :: starEach [.Name B p3] c.X.env) (hs2 : starEach [.Name B p3] c.X.env = (false, eval (.Name B p3) c.X.env) :: starEach [] c.X.env) (hpl : (backTo pos (starEach [.Name B p3] c.X.env)).any (·.1) = false)
    (h : SuA c i a C' fs Γ M P) : SuA c i (.IfExp (.Call (.Name "isinstance" p1) [.Name n p2, .Name B p3] [] pos) a b pos') C' fs Γ M P := fun q oe cls d pn σ H H1 Q hz hf ex tr sl hσ k => by
  have ex' := ex
  obtain ⟨rfl, hx⟩ := ex
  refine pe_to (pe_ifExp (pt_val (pe_callB (X := c.X.suite q ((q, oe) :: pn)) (call_isErr (X := c.X) (by rw [o.K]; exact T) hz hf) (gl_of o hg1) (by show c.X.mg _ = _; rw [o.mg]; exact hm1) (by decide +kernel)
    (pa_cons (pe_var (i := i) (by show c.X.N[i]? = _; rw [o.hN]; exact hi.at_) (vis_of o hv) hd hd2) (pa_cons (pe_glob (v := .ref B') (u := .ref B') (gl_of o hg2) (by show c.X.mg _ = _; rw [o.mg]; exact hm2) rfl hB) pa_nil hs2) hs1) (by decide) (by decide) hs1 hpl) he) pe_sem pe_sem) ?_
  refine ⟨_, hσ, ?_, .ref B', .ref B', true, rfl, fun u r => r, by rw [o.K]; exact hk, true, rfl, ?_⟩
  · rcases hx with ⟨_, z⟩ | ⟨dd, fs', z, h1, _⟩
    · exact .inl z
    · exact .inr ⟨dd, fs', z, h1⟩
  · show if true = true then _ else _
    rw [if_pos rfl]
    exact h q oe (.ref C') d pn σ H H1 Q hz hf ex' tr sl hσ k
theorem su_lst1 {C' : Addr} {fs : List (Str × PyData)} {q : Nat} (hs : starEach [e] c.X.env = (false, eval e c.X.env) :: starEach [] c.X.env) (h : SuA c i e C' fs Γ M fun d M1 => ∃ p, d = .p p ∧ ∀ a, P (.own a) ((a, .lst [p]) :: M1)) : SuA c i (.List [e] pos) C' fs Γ M P := fun a oe cls d pn σ H H1 Q hz hf ex tr sl hσ k => by
  refine pe_to (X := c.X.suite a ((a, oe) :: pn)) (pe_lst (pa_cons pe_sem pa_nil hs)) ?_
  refine h a oe cls d pn σ H H1 _ hz hf ex tr sl hσ fun d' M' v H' H2 p t e1 i1 => ?_
  obtain ⟨y, rfl, p⟩ := p
  refine ⟨Evl.sz_of (by simp), fun b hb => ?_⟩
  have t2 := t.ok.newOwn (o := .lst [v]) (c := .lst [y]) hb rfl ⟨[v], upd_same, .cons i1 .nil⟩
  exact k _ _ _ _ _ (p b) (t.trans t2) (e1.trans t2.ex) rfl
theorem e_addX {φ : Phi} (F : SpS c.m j "__add__" φ) (hsf : PySem.W.selfFirst c.m.K c.m.C = true) (o : c.Ok N sc k) (hj : j ≤ k)
    (h : Ee c Γ M a fun x M1 => Ee c Γ M1 b fun y M2 => ∃ st st', x = .scr st ∧ y = .scr st' ∧ φ [.scr st, .scr st'] M2 P fun C fs M' => c.R C fs Γ M') : Ee c Γ M (.BinOp a .Add b pos) P := by
  obtain ⟨f, hs, hf, fd, ps, F, hB⟩ := F.ex
  have F' : FnOk c.X.prog c.X.w c.X.K c.X.mg c.X.base (L2.CX c.X.prog c.X.w) j f fd ps (spOf c.G φ) := by rw [o.prog, o.ew, o.K, o.mg, o.base]; exact F
  intro σ H H1 Q tr sl q pins s I
  refine wpAny_BinOp (binT (X := c.X) (σ := σ) (R := fun x y Hx => ∀ pins s v u, Inv c.X pins σ Hx s → L2.RelV x v → L2.RelV y u → wpAny (model c.X.prog c.X.w) c.X.A (binaryOp .Add v u) (EP c.X pins σ Q) c.X.xe s) pe_sem pe_sem I ?_ fun v u s2 x y H2 I2 rx ry z => z pins s2 v u I2 rx ry)
  refine h σ H H1 _ tr sl fun d M1 v H' H2 p1 tr1 e1 i1 => ?_
  refine p1 σ H' H2 _ tr1 (sl.mono e1) fun d2 M2 u H3 H4 p2 tr2 e2 i2 => ?_
  obtain ⟨st, st', rfl, rfl, p2⟩ := p2
  intro pins s v' u' I rv ru
  have iv := i1.mono e2
  obtain ⟨a, dx, r, rfl, h1, h2⟩ := id iv
  obtain ⟨b, dy, r', rfl, h3, h4⟩ := id i2
  cases (show v' = Value.ref a from rv)
  cases (show u' = Value.ref b from ru)
  obtain ⟨mA, J, _⟩ := ins_get I.hok (tr2.ok.ex _ _ h1)
  obtain ⟨mB, J', _⟩ := ins_get I.hok (tr2.ok.ex _ _ h3)
  obtain ⟨od, J, _⟩ := J.look
  obtain ⟨od', J', _⟩ := J'.look
  obtain ⟨m, hF⟩ := I.fr
  have hr := o.room.mono hj
  refine PySem.W.binop_K (op := .Add) hF I.ok.mod.kin J J'.type (by rw [o.K]; exact hsf) (by rw [o.K]; exact hs) (by rw [o.K]; exact hf)
    (wpAny_mono (run_in (E := WE c.W σ) F' hr I.env0 (by rw [o.K]; exact hB) (passAt o.tk σ) I (vs := [V.ref a, V.ref b]) (.cons rfl (.cons rfl .nil)) (Q := Q) ⟨H3, M2, [.scr st, .scr st'], P, _, tr2.ok, ⟨iv, i2, trivial⟩, p2, fun d M' v H5 H6 p3 t3 i3 => ?_, fun C fs M' cls dd H5 H6 r t3 x => ?_⟩) (fun w s' z => ?_) fun _ _ x => x)
  · exact q _ M' _ H5 H6 p3 (tr2.trans t3) ((e1.trans e2).trans t3.ex) i3
  · exact o.hR C fs Γ M' σ H5 H6 cls dd r (tr2.trans t3) (sl.mono ((e1.trans e2).trans t3.ex)) x
  · obtain ⟨z', H', I', rz, qz⟩ := z
    exact SlX.cmpback rz ⟨z', H', I', rz, qz⟩
end
theorem ErrK.mono {m : Md} {j k : Nat} {x : Str} {C : Addr} {sp : Sp} (E : ErrK m j x C sp) (h : j ≤ k) : ErrK m k x C sp := by
  obtain ⟨f, fd, ps, h1, h2, h3, h4, h5, h6⟩ := E.ex
  exact ⟨f, fd, ps, h1, h2, h3, h4.mono h, h5, h6⟩
theorem kit_sub {K : PySem.W.Frag} {T B : Addr} (hd : PySem.W.hasDictIn K B = true) (ht : PySem.W.typeIn K (.ref B) = some (.type "type")) (h : PySem.W.subIn K (.ref T) (.ref B) = some true) : PySem.W.kitOne K (.ref T) (.ref B) = some true := by
  obtain ⟨cd, hc, _⟩ := PySem.W.any_some hd
  unfold PySem.W.kitOne
  split
  · rfl
  · show (if ((PySem.W.clsIn K B).isSome && PySem.W.typeIn K (.ref B) == some (.type "type")) = true then PySem.W.subIn K (.ref T) (.ref B) else none) = some true
    rw [hc, ht, if_pos (by rfl)]; exact h
end

section
open PySem PySem.Spec PyProof.Rows L2
open Evl (Ex)
def phAdd (T : Addr) : Phi := fun ds M P R => ∃ ss tt : List (List Int), ds = [.scr (ssD ss), .scr (ssD tt)] ∧ StepsOk ss ∧ StepsOk tt ∧ (3 < ss.length + tt.length → R T [] M) ∧ (ss.length + tt.length ≤ 3 → P (.scr (ssD (ss ++ tt))) M)
theorem steps_app {ss tt : List (List Int)} (h : StepsOk ss) (h' : StepsOk tt) (hl : ss.length + tt.length ≤ 3) : StepsOk (ss ++ tt) :=
  ⟨by rw [List.length_append]; exact hl, fun s hs => (List.mem_append.mp hs).elim (h.2 s) (h'.2 s)⟩
theorem ok_add {m : Md} {f T : Addr} {fd : FuncData} {k j : Nat} (F : Fun m.K "__add__" "Script.__add__" S_Script___add__ f fd) (FS : MkS m j (phInit m.C)) (hj : j + 1 ≤ k) (S : ClsS m) (ET : ErrK m j "TooLong" T (sp0 T)) (g3 : GlD m "MOST_STEPS" (dI 3)) (m1 : m.mg "len" = none) :
    FnOk m.P m.w m.K m.mg m.base (L2.CX m.P m.w) (k + 1) f fd A_Script___add__ (spOf m.G (phAdd T)) := by
  refine fn_okX F sc_Script___add__ (fun ds M P R h => by obtain ⟨ss, tt, rfl, _⟩ := h; rfl) (fun c ds M P R hc o hl hR h => ?_)
  subst hc
  obtain ⟨ss, tt, rfl, hs, ht, hr, hp⟩ := h
  have l1 := hs.1
  have l2 := ht.1
  show Eb c [some (.scr (ssD ss)), some (.scr (ssD tt))] M _ _
  refine b_cons' (by rfl) ?_
  repeat walk_at "x"
  refine ⟨fun hz => ?_, fun hz => ?_⟩
  · have hz := of_decide_eq_true hz
    simp only [List.length_map] at hz
    refine b_cons ?_
    refine s_raise0 ET o hj rfl (by decide) ?_
    rw [hR]
    exact hr (by omega)
  · have hz := of_decide_eq_false hz
    simp only [List.length_map] at hz
    repeat walk_at "x"
    refine oa_tup (ok := o) (by simp; omega) ?_
    repeat walk_at "x"
    intro x dx
    refine ⟨x, dx, ss ++ tt, _, by rw [show ssD (ss ++ tt) = .tuple (ss.map sD ++ tt.map sD) by unfold ssD; rw [List.map_append]], rfl, steps_app hs ht (by omega), rfl, 0, _, rfl, ?_⟩
    exact hp (by omega)
end

section
open PySem PySem.Spec PyProof.Rows L2
open Evl (Ex)
theorem turn_long {P : Program} {w : World} {K : PySem.W.Frag} {tg : Expr} (z : Addr) (lo : Int) (n : Nat) : Turn P w K tg (Itr lo n) [z] z (fun j h => IsLongIter h z (lo + (j : Nat) * 1) ((n : Int) - (j : Nat)) 1) where
  mem := List.mem_singleton.mpr rfl
  obj := fun j h sq b hb => by
    obtain rfl := List.mem_singleton.mp hb
    exact ⟨_, sq, fun v q => by have q' : Data.fields _ = Data.cell v := q; cases q'⟩
  keep := fun j h h' sq kp => kp z (List.mem_singleton.mpr rfl) _ sq
  item := by
    intro X e1 e2 e3 calm j pins s σ H E inv fpo sq lt
    subst e1 e2 e3
    obtain ⟨g0, g1, g2, g3, g4, g5⟩ := fpo z (List.mem_singleton.mpr rfl)
    refine (Walks.longrange (prog := X.prog) (w := X.w) (inv.ok.hd calm) z lo 1 n).item j s _ _ lt sq fun v h' tk hv sq' kp => ?_
    obtain ⟨t, rfl⟩ := hv
    have inv1 : Inv X pins σ H { s with heap := h', toks := tk } := inv.turned (fun b o hb e => kp b o (by simpa using hb) e) g0 g1 g3 g4 g5
    refine ⟨_, rfl, go_of (s := { s with heap := h', toks := tk }) (n := "longrange_iterator") sq' rfl rfl (by decide) ⟨.int (lo + j), H, inv1, ⟨t, by rw [Int.mul_one]⟩, ⟨rfl, rfl⟩, sq', fun b hb => (fpo b hb).1⟩⟩
  done := by
    intro X e1 e2 e3 calm j pins s σ H E inv fpo sq ge
    subst e1 e2 e3
    obtain ⟨g0, g1, g2, g3, g4, g5⟩ := fpo z (List.mem_singleton.mpr rfl)
    have ge' : n ≤ j := ge
    exact wpAny_pyNext_long_end (inv.ok.hd calm) sq (by omega) fun h' eb => ⟨rfl, inv.turned (t' := s.toks) (fun b o hb e => eb b o hb e) g0 g1 g3 g4 g5⟩
  self := fun _ _ _ _ _ sq q => wpAny_pyIter_longiter sq q
theorem range_any {X : Cx} {tg : Expr} {pins : List (Addr × Obj)} {σ : L2.St} {H : Hp} {s : Shared} {R : It → Hp → Prop} {E : Value → Shared → Prop} {lo hi : Int} {t u v : Tok} {tk : Nat} (inv : Inv X pins σ H s)
    (q : R (Itr lo (hi - lo).toNat) H) : wpAny (model X.prog X.w) X.A (pyIter (.ref s.heap.objs.size)) (PIE X pins σ tg R) E { s with heap := s.heap.push { cls := .type "range", data := .fields #[.int lo t, .int hi u, .int 1 v] }, toks := tk } := by
  have inv1 : Inv X pins σ H { s with heap := s.heap.push { cls := .type "range", data := .fields #[.int lo t, .int hi u, .int 1 v] }, toks := tk } := inv.kept fun b o e => Heap.get?_push_of_some _ e
  have a1 : lo + ((0 : Nat) : Int) * 1 = lo := by simp
  have a2 : (((hi - lo).toNat : Nat) : Int) - ((0 : Nat) : Int) = Builtin.Range.rangeSize lo hi 1 := by rw [rangeSize_one]; split <;> omega
  cases small : Builtin.Range.small lo hi 1 with
  | true =>
    refine wpAny_pyIter_range (IsRange.new ..) small ⟨_, [_], _, _, H, rfl, inv1.kept (t' := tk) fun b o e => Heap.get?_push_of_some _ e, turn_range _ lo (hi - lo).toNat, ?_, fun b hb => ?_, q⟩
    · show IsRangeIter _ _ (lo + ((0 : Nat) : Int) * 1) ((((hi - lo).toNat : Nat) : Int) - ((0 : Nat) : Int)) 1
      rw [a1, a2]; exact Heap.get?_push_size _ rfl
    · obtain rfl := List.mem_singleton.mp hb
      exact inv1.fpOk (Nat.le_refl _) (inv1.hok.fresh (Nat.le_refl _))
  | false =>
    refine wpAny_pyIter_longrange (IsRange.new ..) small ⟨_, [_], _, _, H, rfl, inv1.kept (t' := tk) fun b o e => Heap.get?_push_of_some _ e, turn_long _ lo (hi - lo).toNat, ?_, fun b hb => ?_, q⟩
    · show IsLongIter _ _ (lo + ((0 : Nat) : Int) * 1) ((((hi - lo).toNat : Nat) : Int) - ((0 : Nat) : Int)) 1
      rw [a1, a2]; exact Heap.get?_push_size _ rfl
    · obtain rfl := List.mem_singleton.mp hb
      exact inv1.fpOk (Nat.le_refl _) (inv1.hok.fresh (Nat.le_refl _))
def iRngA (ta : TA) : TI := fun σ H R => ta σ H fun vs H1 => ∃ i j : Int, vs = [.int i, .int j] ∧ R (Itr i (j - i).toNat) H1
theorem pi_rangeA {X : Cx} {tg : Expr} {a b : Expr} {ta : TA} {p pos : Pos} (hg : Gl X "range") (hm : X.mg "range" = none) (ha : PA X [a, b] ta) (s1 : starEach [a, b] X.env = [(false, eval a X.env), (false, eval b X.env)]) (s2 : starEach [b] X.env = [(false, eval b X.env)]) :
    PI X tg (.Call (.Name "range" p) [a, b] [] pos) (iRngA ta) := by
  refine ⟨fun pins s σ H R I h => Call_ (ld_blt I hg hm boot_range (PyProof.Rows.callWith_type1 (thn (ha.run pos pins s σ H _ I h) fun us s1 ⟨vs, H1, I1, r1, q1⟩ => ?_) (by rw [s1, s2]) (by rw [s2]; rfl)))⟩
  obtain ⟨i, j, rfl, q⟩ := q1
  cases r1 with
  | cons r rr =>
    cases rr with
    | cons r' rr =>
      cases rr
      obtain ⟨t, rfl⟩ := r
      obtain ⟨t', rfl⟩ := r'
      exact call_range_2 (range_any I1 q)
section
variable {c : Cd} {N : List Str} {sc : Scope} {k : Nat} {Γ : Gx} {M : Mem} {P : D → Mem → Prop} {nx_ : Gx → Mem → Prop} {rt_ : D → Mem → Prop} {bk_ ct_ : Gx → Mem → Prop} {bd : List Stmt} {e a b : Expr} {x v : Str} {C : Addr} {np pv ps pos pos' : Pos} {j : Nat}
theorem i_rangeA {tg : Expr} {pr pc : Pos} {Pi : Nat → (Nat → D) → (Mem → Prop) → Mem → Prop} (o : c.Ok N sc k) (hm : c.m.mg "range" = none) (hg : sc.names.lookup ("range" : Str) = some .globalImplicit) (hs1 : starEach [a, b] c.X.env = [(false, eval a c.X.env), (false, eval b c.X.env)]) (hs2 : starEach [b] c.X.env = [(false, eval b c.X.env)])
    (h : Ea c Γ M [a, b] fun ds M1 => ∃ lo n : Int, ds = [dI lo, dI n] ∧ Pi (n - lo).toNat (fun i => dI (lo + (i : Nat))) (fun _ => True) M1) : Ei c Γ M tg (.Call (.Name "range" pr) [a, b] [] pc) Pi :=
  fun σ H H1 R tr sl q => pi_to (pi_rangeA (gl_of o hg) (by rw [o.mg]; exact hm) pa_sem hs1 hs2) (h σ H H1 _ tr sl fun ds M1 vs H' H2 p1 tr1 e1 i1 => by
    obtain ⟨lo, n, rfl, p⟩ := p1
    obtain ⟨v, w, rfl⟩ : ∃ v w, vs = [v, w] := by
      match vs, i1 with
      | [v, w], _ => exact ⟨v, w, rfl⟩
    have iv := i1.1.int
    have iw := i1.2.1.int
    subst iv iw
    exact ⟨lo, n, rfl, q _ _ _ M1 _ H' H2 p tr1 e1 itd_range⟩)
def SuN (c : Cd) (e : Expr) (Γ : Gx) (M : Mem) (P : D → Mem → Prop) : Prop :=
  ∀ (a : Addr) (oe : Obj) (cls : Value) (d : Option Addr) (pn : List (Addr × Obj)) (σ : L2.St) (H H1 : Hp) (Q : VK), Zc cls d oe → (∃ vs, oe.data = .fields vs) → Tr c.G c.B H H1 M → Slots c.G H σ Γ →
    (∀ d' M' v H' H2, P d' M' → Tr c.G c.B H' H2 M' → Ex H H' → Is c.G H' v d' → Q v H2) → eSem (c.X.suite a ((a, oe) :: pn)) e σ H1 Q
theorem sn_str {s : Str} {q : Nat} (h : P (dS s) M) : SuN c (.Constant (.str s) q pos) Γ M P := fun a oe cls d pn σ H H1 Q hz hf tr sl k => pe_to pe_str (k _ M _ H H1 h tr (Evl.Ex.refl H) (Dq.str s))
theorem sn_bl {s : Bool} {q : Nat} (h : P (dB s) M) : SuN c (.Constant (.bool s) q pos) Γ M P := fun a oe cls d pn σ H H1 Q hz hf tr sl k => pe_to pe_bl (k _ M _ H H1 h tr (Evl.Ex.refl H) (Dq.bl s))
abbrev RTryN (c : Cd) (C : Addr) (j : Nat) (e : Expr) (nx_ : Gx → Mem → Prop) : Rx := fun C' fs Γ M => ∃ b, PySem.W.exmOne c.m.K (.ref C') (.ref C) = some b ∧ (b = true → SuN c e Γ M fun d M' => nx_ (Γ.set j (some d)) M') ∧ (b = false → c.R C' fs Γ M)
theorem s_tryOn [hj : At N v j] (o : c.Ok N sc k) (hs : c.X.stack = c.X.env :: c.X.outer) (hf : c.X.env.frame = some c.X.env.locals) (hlv : L2.Loc sc v) (hfv : sc.names.lookup v = some .local ∨ c.lvl = true)
    (hg : sc.names.lookup x = some .globalImplicit) (hx : (x == ("__debug__" : Str)) = false) (hm : c.m.mg x = some (.ref C)) (hsw : swapsWith e (some (.Name v pv)) ps.line c.X.env = pure false)
    (body : ∀ c' : Cd, c'.m = c.m → c'.Ok N sc k → c'.lvl = c.lvl → c'.R = RTryN c C j e nx_ → Eb c' Γ M bd ⟨nx_, rt_, bk_, ct_⟩) :
    Es c Γ M (.Try bd [.ExceptHandler (some (.Name x np)) none [.Assign [.Name v pv] e ps] pos'] [] [] pos) ⟨nx_, rt_, bk_, ct_⟩ := by
  intro σ H H1 E tr sl r pins s I
  refine (ps_try_only (X := c.X) (c := .ref C) (tb := fun W D σ H => ∀ pn xe, Takes (c.X.tr pn xe) W → PassesOwn (model c.X.prog c.X.w) c.X.A c.X.env xe → bSem (c.X.tr pn xe) bd D σ H)
    (ts := fun a cls d D σ H => ∀ oe pn, Zc cls d oe → (∃ vs, oe.data = .fields vs) → bSem (c.X.suite a ((a, oe) :: pn)) [.Assign [.Name v pv] e ps] D σ H) (Wout := c.W) hs hf
    ⟨gl_of o hg, hx, .inl (by rw [o.mg]; exact hm)⟩ o.tk (fun W pn xe tk po => ⟨fun pins s σ H D I h => h pn xe tk po pins s I⟩) (fun a oe cls d pn z f => ⟨fun pins s σ H D I h => h oe pn z f pins s I⟩)).run pins s σ H1 E I ?_
  intro pn xe tk po
  refine body ⟨c.m, c.X.tr pn xe, ⟨H, H1, M⟩, _, RTryN c C j e nx_, c.lvl⟩ rfl ⟨o.prog, o.ew, o.K, o.mg, o.base, o.hN, o.nd, o.esc, o.calm, o.fn, o.room, po, tk, ?_⟩ rfl rfl σ H H1 E (Tr.refl tr.ok) sl
    ⟨fun Γ' M' σ' H' H2 q t e s' => r.nx Γ' M' σ' H' H2 q (tr.trans t) e s', fun d M' w H' H2 q t e i' => r.rt d M' w H' H2 q (tr.trans t) e i', fun Γ' M' σ' H' H2 q t e s' => r.bk Γ' M' σ' H' H2 q (tr.trans t) e s', fun Γ' M' σ' H' H2 q t e s' => r.ct Γ' M' σ' H' H2 q (tr.trans t) e s'⟩
  intro C' fs Γ' M' σ' H' H2 cls d hr t' sl' ex
  obtain ⟨b, hb, h1, h2⟩ := hr
  refine ⟨b, by rw [ex.1, o.K]; exact hb, fun z a' ha oe pn' hz hf' pins' s' I' => ?_, fun z => o.hR C' fs Γ' M' σ' H' H2 cls d (h2 z) (tr.trans t') sl' ex⟩
  refine (pss_one (ps_set (X := c.X.suite a' ((a', oe) :: pn')) (i := j) (by show c.X.N.Nodup; rw [o.hN]; exact o.nd) (by show c.X.N[j]? = _; rw [o.hN]; exact hj.at_) (loc_of o hlv) pe_sem hsw (fn_of' o hfv))).run pins' s' _ _ _ I' ?_
  refine h1 z a' oe cls d pn' _ H' H2 _ hz hf' (tr.trans t') sl' fun d' M'' w H3 H4 p3 t3 e3 i3 => ?_
  exact r.nx _ M'' _ H3 H4 p3 t3 ((t'.ex).trans e3) ((sl'.mono e3).set j i3)
end
end

section
open PySem PySem.Spec PyProof.Rows L2
open Evl (Ex)
theorem nd_len {α : Type} [DecidableEq α] : ∀ {xs ys : List α}, xs.Nodup → (∀ x ∈ xs, x ∈ ys) → xs.length ≤ ys.length
  | [], _, _, _ => Nat.zero_le _
  | x :: xs, ys, nd, h => by
    have hx := h x (by simp)
    have nd2 := List.nodup_cons.mp nd
    have ih := nd_len (xs := xs) (ys := ys.erase x) nd2.2 fun y hy => (List.mem_erase_of_ne (fun e => nd2.1 (by rw [← e]; exact hy))).mpr (h y (List.mem_cons_of_mem _ hy))
    rw [List.length_erase_of_mem hx] at ih
    have := List.length_pos_of_mem hx
    rw [List.length_cons]; omega
section
open PySem.Calls PySem.W
variable {P : Program} {w : World} {A : Around} {E : Value → Shared → Prop} {s : Shared}
abbrev emptyO (w : World) : Obj := { cls := .type "set", dict := none, data := .set #[] 0 (.fresh 0 0 (!w.params.followText "set-order")) }
theorem set_of_ints {z : Addr} {its : Array Value} (ns : List Int) {Q : Value → Shared → Prop} (hn0 : A.handled = none) (hz : s.heap.IsList z its) (hnt : IntsAre its.toList ns) (few : ns.length + 1 < scanBound)
    (fin : ∀ (h' : Heap) (tk c : Nat), SetR w h' s.heap.objs.size (fun j => decide (j ∈ ns)) c → c ≤ ns.length → (∀ b o, s.heap.get? b = some o → h'.get? b = some o) → Q (.ref s.heap.objs.size) { s with heap := h', toks := tk }) : wpAny (model P w) A (call (.type "set") [.ref z]) Q E s := by
  have len0 : its.size = ns.length := by have q := IntsAre.length hnt; rwa [Array.length_toList] at q
  obtain ⟨c0, tl0, mro0⟩ := F.called_set.mro
  have k1 := F.called_set.made; have k2 := F.called_set.sub
  refine wpAny_call (codeAny_of_tree ?_); show wpAny _ _ (callAny (.type "set") _) _ _ _
  refine wpAny_pure ⟨Code.quiet_builtin _ (by decide +kernel), codeAny_builtin F.entry_type_call ?_⟩; rw [Around.under_plain (weight_type_call_type "set" [.ref z] []) rfl]
  have k3 := F.called_set.notType; have k4 := F.called_set.canCreate; have k5 := F.typeCall_set_1 (.ref z)
  repeat (any_goals (first | assumption | wp_step))
  refine codeAny_mono (code_set_led1 (.ref z) (E := E) (Q₁ := fun ob t1 => ob = .ref s.heap.objs.size ∧ t1 = { s with heap := s.heap.push (emptyO w) }) ⟨rfl, rfl⟩) fun r t1 hr => ?_
  cases r with
  | error e => exact hr
  | ok fl =>
    cases fl with
    | ret ob =>
      obtain ⟨rfl, rfl⟩ := hr
      have at0 : (s.heap.push (emptyO w)).get? s.heap.objs.size = some (emptyO w) := Heap.get?_push_size _ rfl
      have ty0 : Shared.TypeIs { s with heap := s.heap.push (emptyO w) } (.ref s.heap.objs.size) "set" := ⟨_, at0, rfl⟩
      have k6 := F.called_set.init.lookup; have k7 := F.called_set.init.bind (.ref s.heap.objs.size)
      repeat (any_goals (first | assumption | wp_step))
      refine codeAny_mono (codeAny_call_builtin (R := wants (fun r t2 => r = .none ∧ ∃ h' tk c, t2 = { s with heap := h', toks := tk } ∧ SetR w h' s.heap.objs.size (fun j => decide (j ∈ ns)) c ∧ c ≤ ns.length ∧ (∀ b o, s.heap.get? b = some o → h'.get? b = some o)) E) F.called_set.init.plain F.entry_set_init (check_set_init_1 ty0 ?_)) fun r2 t2 hr2 => ?_
      · obtain ⟨⟨oc, od, oda, osl⟩, ho, hcl, nl, hdl⟩ := hz
        simp only at hcl hdl
        subst hcl hdl
        have at1 : (s.heap.push (emptyO w)).get? z = some { cls := .type "list", dict := od, data := .seq its nl, slots := osl } := Heap.get?_push_of_some _ ho
        have k8 := F.sub_list_set; have k9 := F.sub_list_frozenset
        have k10 : (Value.type "list" == Value.type "dict") = false := by decide +kernel
        have il : (s.heap.push (emptyO w)).IsList z its := ⟨_, at1, rfl, nl, rfl⟩
        unfold Builtin.«set.__init__» noKeywords Builtin.Frozenset.updateFrom
        generalize hPI : pyIter = PI; wp_walk; subst hPI
        refine wpAny_pyIter_list il (wpAny_bind (wpAny_runValue ?_))
        have zlt : z < s.heap.objs.size := Heap.lt_size ho
        have hn3 : A.in1.in1.in1.handled = none := by simp [hn0]
        have size1 : (s.heap.push (emptyO w)).objs.size = s.heap.objs.size + 1 := Heap.size_push ..
        have ne1 : z ≠ (s.heap.push (emptyO w)).objs.size := by rw [size1]; exact Nat.ne_of_lt (Nat.lt_succ_of_lt zlt)
        have nfp : s.heap.objs.size ∉ [(s.heap.push (emptyO w)).objs.size, z] := by
          rw [size1]; simp only [List.mem_cons, List.not_mem_nil, or_false, not_or]; exact ⟨Nat.ne_of_lt (Nat.lt_succ_self _), Nat.ne_of_gt zlt⟩
        have vals : ∀ (i : Nat) (v : Value), its[i]? = some v → ∃ k t, ns[i]? = some k ∧ v = .int k t := fun i v hv => by
          have hi : i < ns.length := by rw [← len0]; exact (Array.getElem?_eq_some_iff.mp hv).1
          obtain ⟨t, e⟩ := PyProof.Rows.IntsAre.int_at hnt i v (by rw [Array.getElem?_toList]; exact hv)
          exact ⟨ns[i], t, List.getElem?_eq_getElem hi, by rw [e, List.getD_eq_getElem?_getD, List.getElem?_eq_getElem hi]; rfl⟩
        refine set_update_ints ((Walks.list hn3 _ z ne1 its).toS) s.heap.objs.size nfp ns len0 few vals (its.size - 0) 0 _ (by omega) (Nat.zero_le _) ⟨⟨_, Heap.get?_push_size _ rfl, rfl, rfl⟩, (il.push _)⟩ ⟨0, Nat.le_refl 0, setR_new_at (Heap.get?_push_of_some _ at0)⟩ fun s' c' hm hc' hS' => ?_
        obtain ⟨h', g2, d', tk', os'⟩ := s'
        have eg : g2 = s.gens := hm.gens; have ed : d' = s.drawn := hm.drawn; have eo : os' = s.os := hm.os
        subst eg ed eo
        show wpAny _ _ _ _ _ _
        refine wpAny_pure ?_; show wpAny _ _ (ret Value.none) _ _ _
        rw [len0] at hc'
        refine wpAny_pure ⟨rfl, h', tk', c', rfl, hS', hc', fun b o e => ?_⟩
        have lt0 : b < s.heap.objs.size := Heap.lt_size e
        refine hm.heap b o ?_ (Heap.get?_push_of_some _ (Heap.get?_push_of_some _ e))
        rw [size1]; simp only [List.mem_cons, List.not_mem_nil, or_false, not_or]; exact ⟨Nat.ne_of_lt lt0, Nat.ne_of_lt (Nat.lt_succ_of_lt lt0)⟩
      · cases r2 with
        | error e => exact hr2
        | ok fl2 =>
          cases fl2 with
          | ret r =>
            obtain ⟨rfl, h', tk, c', rfl, g1, g2, g3⟩ := hr2
            repeat (any_goals (first | assumption | wp_step))
            exact fin _ _ _ g1 g2 g3
          | _ => exact hr2.elim
    | _ => exact hr.elim
end
section
variable {X : Cx}
def rSetL (K : PySem.W.Frag) (w : World) : List V → Hp → VK → Prop := fun vs H Q => ∃ (l : Addr) (ns : List Int), vs = [.ref l] ∧ SqL K H l (ns.map V.int) ∧ ns.length ≤ 4000 ∧ ∀ a c, H a = none → (∀ L : List Int, (∀ k ∈ ns, k ∈ L) → c ≤ L.length) → Q (.ref a) (upd H a (SetO w a (fun j => decide (j ∈ ns)) c))
theorem cr_setL (hc : X.calm = true) : CallR X (.type "set") (rSetL X.K X.w) := by
  intro pins s σ H vs us Q I r h
  obtain ⟨l, ns, rfl, hq, hl, q⟩ := h
  cases r with
  | cons r rr =>
    cases rr
    cases r
    obtain ⟨its, rv, pl, hz⟩ := I.list hq
    refine set_of_ints (P := X.prog) (w := X.w) ns (I.ok.hd hc) pl.isList (ints_of_vals (by simpa using rv)) (by unfold scanBound; omega) fun h' tk c R hcl kp => ?_
    have hn : H s.heap.objs.size = none := I.hok.fresh (Nat.le_refl _)
    have R0 := R
    obtain ⟨o, es, ep, t, ho, _, _, _, nd, hm, _, _, hsz, _, _⟩ := R0
    refine ⟨.ref s.heap.objs.size, _, I.call (ch := []) (Un.laid kp (Nat.le_refl _) hn) (I.hok.laid kp (Nat.le_refl _) (setO_new R)) I.bare (fun _ z => nomatch z), rfl, q _ c hn fun L hL => ?_⟩
    have hsub : es.toList.map keyOf ⊆ L := fun k hk => hL k (of_decide_eq_true ((hm k).mpr hk))
    have := nd_len nd hsub
    rw [List.length_map, Array.length_toList] at this
    omega
end
section
variable {c : Cd} {N : List Str} {sc : Scope} {k : Nat} {Γ : Gx} {M : Mem} {P : D → Mem → Prop} {a : Expr} {p p2 q pos : Pos}
theorem e_sortSet (o : c.Ok N sc k) (hm : c.m.mg "sorted" = none) (hm2 : c.m.mg "set" = none) (hg : sc.names.lookup ("sorted" : Str) = some .globalImplicit) (hg2 : sc.names.lookup ("set" : Str) = some .globalImplicit)
    (na : starEach [a] c.X.env = (false, eval a c.X.env) :: starEach [] c.X.env)
    (n1 : starEach [.Call (.Name "set" p2) [a] [] q] c.X.env = (false, eval (.Call (.Name "set" p2) [a] [] q) c.X.env) :: starEach [] c.X.env) (n2 : (backTo pos (starEach [] c.X.env)).any (·.1) = false) (n3 : (backTo q (starEach [] c.X.env)).any (·.1) = false)
    (h : Ee c Γ M a fun x M1 => ∃ ns L : List Int, Rdd M1 x (.list (ns.map .int)) ∧ ns.length ≤ 4000 ∧ (∀ i ∈ ns, i ∈ L) ∧ L.length < 64 ∧ ∀ (b : Addr) (out : List Int), out.Pairwise (· < ·) → (∀ i, i ∈ out ↔ i ∈ ns) → P (.own b) ((b, .lst (out.map .int)) :: M1)) :
    Ee c Γ M (.Call (.Name "sorted" p) [.Call (.Name "set" p2) [a] [] q] [] pos) P :=
  e_of (pe_callB (cr_sortedSet o.calm) (gl_of o hg) (by rw [o.mg]; exact hm) (by decide +kernel) (pa_cons (pe_callTy (cr_setL o.calm) (gl_of o hg2) (by rw [o.mg]; exact hm2) (by decide +kernel) (pa_cons pe_sem pa_nil na) (by decide) (by decide) na n3) pa_nil n1) (by decide) (by decide) n1 n2) fun σ H H1 Q tr sl qq => h σ H H1 _ tr sl fun d M1 v H' H2 p1 t1 e1 i1 => by
    obtain ⟨ns, L, hx, hl, hL, hl2, p⟩ := p1
    obtain ⟨b, ws, rfl, h1, h2⟩ := rd_l t1 i1 hx
    rw [dpa_ints_inv h2] at h1
    refine ⟨b, ns, rfl, by rw [o.K]; exact h1, hl, fun a1 c1 ha hc => ?_⟩
    refine ⟨a1, _, c1, rfl, upd_same, Nat.lt_of_le_of_lt (hc L hL) hl2, fun out b2 hs hm hlen hb => ?_⟩
    have t2 := t1.ok.junk (o := SetO c.X.w a1 (fun j => decide (j ∈ ns)) c1) ha
    have t3 := t2.ok.newOwn (o := .lst (out.map V.int)) (c := .lst (out.map .int)) hb rfl ⟨_, upd_same, dpa_ints⟩
    exact qq _ _ _ _ _ (p b2 out hs fun i => (hm i).trans (by simp)) ((t1.trans t2).trans t3) ((e1.trans t2.ex).trans t3.ex) rfl
theorem e_lenSetN (o : c.Ok N sc k) (hm : c.m.mg "len" = none) (hm2 : c.m.mg "set" = none) (hg : sc.names.lookup ("len" : Str) = some .globalImplicit) (hg2 : sc.names.lookup ("set" : Str) = some .globalImplicit)
    (na : starEach [a] c.X.env = (false, eval a c.X.env) :: starEach [] c.X.env)
    (h : Ee c Γ M a fun x M1 => ∃ ns : List Int, Rdd M1 x (.list (ns.map .int)) ∧ ns.length ≤ 4000 ∧ ns.Nodup ∧ P (dI ns.length) M1) :
    Ee c Γ M (.Call (.Name "len" p) [.Call (.Name "set" p2) [a] [] q] [] pos) P :=
  e_of (RZ.pe_lenSetI (gl_of o hg) (by rw [o.mg]; exact hm) (gl_of o hg2) (by rw [o.mg]; exact hm2) pe_sem o.calm na) fun σ H H1 Q tr sl qq => h σ H H1 _ tr sl fun d M1 v H' H2 p1 t1 e1 i1 => by
    obtain ⟨ns, hx, hl, hn, p⟩ := p1
    obtain ⟨b, ws, rfl, h1, h2⟩ := rd_l t1 i1 hx
    rw [dpa_ints_inv h2] at h1
    exact ⟨b, ns, rfl, by rw [o.K]; exact h1, hn, hl, qq _ _ _ _ _ p t1 e1 (Dq.int _)⟩
end
end

section
open PySem PySem.Spec PyProof.Rows L2
open Evl (Ex)
abbrev lenOk (d : PyData) : Bool := isInt d 0 1000000000000000000000000000000
theorem len_nat {d : PyData} (h : lenOk d = true) : ∃ n : Nat, d = natI n ∧ n ≤ TOP := by
  cases d with
  | int i =>
    simp only [lenOk, isInt, Bool.and_eq_true, decide_eq_true_eq] at h
    refine ⟨i.toNat, ?_, ?_⟩
    · show PyData.int i = .int (i.toNat : Int)
      rw [Int.toNat_of_nonneg (by omega)]
    · unfold TOP; omega
  | _ => simp [lenOk, isInt] at h
theorem len_ok {n : Nat} (h : n ≤ TOP) : lenOk (natI n) = true := by
  unfold TOP at h
  simp only [lenOk, natI, isInt, Bool.and_eq_true, decide_eq_true_eq]; omega
def phChkG (I : Addr) : Phi := fun ds M P R => ∃ d, ds = [.p d] ∧ (lenOk d = false → R I [] M) ∧ (lenOk d = true → P dN M)
theorem ok_chkG {m : Md} {f I : Addr} {fd : FuncData} {k j : Nat} (F : Fun m.K "check_length" "check_length" S_check_length f fd) (F1 : Fd m CX0 k "is_integer" phII) (EI : ErrK m j "InvalidLength" I (sp0 I)) (hj : j + 1 ≤ k) (g1 : GlD m "MOST_LENGTH" (dI 1000000000000000000000000000000)) :
    FnOk m.P m.w m.K m.mg m.base (L2.CX m.P m.w) (k + 1) f fd ["length"] (spOf m.G (phChkG I)) := by
  refine fn_okX F sc_check_length (fun ds M P R h => by obtain ⟨d, rfl, _⟩ := h; rfl) (fun c ds M P R hc o hl hR h => ?_)
  subst hc
  obtain ⟨d, rfl, hr, p⟩ := h
  show Eb c [some (.p d)] M _ _
  refine b_cons' (by rfl) ?_
  repeat walk_at "x"
  refine ⟨d, 0, _, rfl, ?_⟩
  refine ⟨_, rfl, fun h => ?_, fun h => ?_⟩
  · have h : lenOk d = false := by simpa using h
    repeat walk_at "x"
    refine s_raise0 EI o hj rfl (by decide) ?_
    rw [hR]
    exact hr h
  · have h : lenOk d = true := by simpa using h
    repeat walk_at "x"
    exact p h
end

section
open PySem PySem.Spec PyProof.Rows L2
open Evl (Ex)
def stTop (a : Nat) (up : Bool) (b z : Nat) : Int := if up then (b : Int) - a else (b : Int) + z - 1 - a
def stBot (w : Nat) (up : Bool) : Int := if up then (w : Int) - 1 else (w : Int) + 1
def stillIn (w a : Nat) (up : Bool) (b z : Nat) : List Nat := if stTop a up b z < 0 ∨ stTop a up b z % stBot w up ≠ 0 ∨ (z : Int) ≤ stTop a up b z / stBot w up then [] else [(stTop a up b z / stBot w up).toNat * w + a]
theorem mem_stillIn {w a b z m : Nat} {up : Bool} (hup : up = true → 2 ≤ w) (ha : a < w) : m ∈ stillIn w a up b z ↔ m % w = a ∧ m / w < z ∧ (b + if up = true then m / w else z - 1 - m / w) = m := by
  have hw : 0 < w := Nat.lt_of_le_of_lt (Nat.zero_le _) ha
  have hb : 0 < stBot w up := by
    cases up
    · show (0 : Int) < w + 1; omega
    · have := hup rfl; show (0 : Int) < w - 1; omega
  -- the row
  have key : ∀ r : Nat, r < z → ((b + if up = true then r else z - 1 - r) = a + w * r ↔ stTop a up b z = stBot w up * r) := by
    intro r hr
    have e1 : ((w * r : Nat) : Int) = (w : Int) * r := by push_cast; rfl
    cases up with
    | true =>
      show b + r = a + w * r ↔ (b : Int) - a = ((w : Int) - 1) * r
      rw [Int.sub_mul, Int.one_mul]; omega
    | false =>
      show b + (z - 1 - r) = a + w * r ↔ (b : Int) + z - 1 - a = ((w : Int) + 1) * r
      rw [Int.add_mul, Int.one_mul]; omega
  constructor
  · intro h
    unfold stillIn at h
    split at h
    · cases h
    · rename_i hn
      obtain ⟨h1, h2, h3⟩ : ¬ stTop a up b z < 0 ∧ stTop a up b z % stBot w up = 0 ∧ ¬ (z : Int) ≤ stTop a up b z / stBot w up := by
        refine ⟨fun q => hn (.inl q), ?_, fun q => hn (.inr (.inr q))⟩
        exact Decidable.byContradiction fun q => hn (.inr (.inl q))
      have hm := List.mem_singleton.mp h
      have hq : 0 ≤ stTop a up b z / stBot w up := Int.ediv_nonneg (by omega) (by omega)
      generalize hr : (stTop a up b z / stBot w up).toNat = r at hm
      have hri : stTop a up b z / stBot w up = (r : Int) := by omega
      have hrz : r < z := by omega
      have e2 : m / w = r := by rw [hm, Nat.mul_comm, Nat.mul_add_div hw, Nat.div_eq_of_lt ha]; rfl
      have e3 : m % w = a := by rw [hm, Nat.mul_comm, Nat.mul_add_mod, Nat.mod_eq_of_lt ha]
      refine ⟨e3, by rw [e2]; exact hrz, ?_⟩
      rw [e2]
      have := (key r hrz).mpr (by
        have := Int.mul_ediv_add_emod (stTop a up b z) (stBot w up)
        rw [h2, hri, Int.add_zero] at this
        exact this.symm)
      rw [this, hm, Nat.mul_comm r w]; omega
  · rintro ⟨h1, h2, h3⟩
    have e := (key (m / w) h2).mp (by rw [h3]; have := Nat.mod_add_div m w; rw [h1] at this; exact this.symm)
    have e2 : stTop a up b z / stBot w up = ((m / w : Nat) : Int) := by rw [e, Int.mul_ediv_cancel_left _ (by omega)]
    unfold stillIn
    rw [if_neg, e2]
    · have := Nat.mod_add_div m w
      rw [h1] at this
      rw [Int.toNat_natCast, List.mem_singleton, Nat.mul_comm]; omega
    · rintro (q | q | q)
      · rw [e] at q
        have := Int.mul_nonneg (Int.le_of_lt hb) (Int.natCast_nonneg (m / w))
        omega
      · rw [e] at q; exact q (Int.mul_emod_right _ _)
      · rw [e2] at q; omega
theorem stillIn_len {w a b z : Nat} {up : Bool} : (stillIn w a up b z).length ≤ 1 := by
  unfold stillIn; split
  · exact Nat.zero_le _
  · exact Nat.le_refl _
def stillW (w n : Nat) : List Int → Nat → List Nat
  | [], _ => []
  | x :: s, b => stillIn w (x.natAbs - 1) (decide (0 < x)) b (sz (x.natAbs - 1) w n) ++ stillW w n s (b + sz (x.natAbs - 1) w n)
theorem begB_snoc (w n : Nat) (s : List Int) (x : Int) : begB w n (s ++ [x]) = begB w n s + sz (x.natAbs - 1) w n := by
  unfold begB; rw [List.map_append, List.foldl_append]; rfl
theorem stillW_snoc {w n : Nat} {x : Int} : ∀ {s : List Int} {b : Nat}, stillW w n (s ++ [x]) b = stillW w n s b ++ stillIn w (x.natAbs - 1) (decide (0 < x)) (b + begB w n s) (sz (x.natAbs - 1) w n)
  | [], b => by show stillIn _ _ _ b _ ++ [] = [] ++ _; rw [List.append_nil, List.nil_append]; rfl
  | y :: s, b => by
    have e : begB w n (y :: s) = sz (y.natAbs - 1) w n + begB w n s := by
      unfold begB
      rw [List.map_cons, List.foldl_cons, Nat.zero_add]
      have : ∀ (l : List Nat) (k : Nat), l.foldl (· + ·) k = k + l.foldl (· + ·) 0 := by
        intro l
        induction l with
        | nil => intro k; rfl
        | cons a l ih => intro k; rw [List.foldl_cons, ih, List.foldl_cons, ih (0 + a)]; omega
      exact this _ _
    show stillIn _ _ _ b _ ++ stillW w n (s ++ [x]) _ = (stillIn _ _ _ b _ ++ stillW w n s _) ++ _
    rw [stillW_snoc, e, List.append_assoc, Nat.add_assoc]
theorem stillW_len {w n : Nat} : ∀ {s : List Int} {b : Nat}, (stillW w n s b).length ≤ s.length
  | [], _ => Nat.le_refl _
  | x :: s, b => by
    have := stillW_len (w := w) (n := n) (s := s) (b := b + sz (x.natAbs - 1) w n)
    have := stillIn_len (w := w) (a := x.natAbs - 1) (b := b) (z := sz (x.natAbs - 1) w n) (up := decide (0 < x))
    show (_ ++ stillW w n s _).length ≤ _
    rw [List.length_append, List.length_cons]; omega
def upOk (w : Nat) (s : List Int) : Prop := ∀ x ∈ s, 0 < x → 2 ≤ w
theorem mem_stillW {w n m : Nat} (hw : 0 < w) : ∀ {s : List Int} {b : Nat}, (∀ x ∈ s, 1 ≤ x.natAbs ∧ x.natAbs ≤ w) → (s.map Int.natAbs).Nodup → upOk w s → (m ∈ stillW w n s b ↔ (∃ x ∈ s, x.natAbs - 1 = m % w) ∧ m < n ∧ plcIn w n m s b = m)
  | [], b, _, _, _ => by simp [stillW]
  | x :: s, b, hx, nd, up => by
    have hx0 := hx x (by simp)
    have nd := List.nodup_cons.mp (show (x.natAbs :: s.map Int.natAbs).Nodup from nd)
    have ih := mem_stillW (m := m) (n := n) hw (s := s) (b := b + sz (x.natAbs - 1) w n) (fun y hy => hx y (List.mem_cons_of_mem _ hy)) nd.2 (fun y hy => up y (List.mem_cons_of_mem _ hy))
    have hI := mem_stillIn (m := m) (b := b) (z := sz (x.natAbs - 1) w n) (up := decide (0 < x)) (w := w) (a := x.natAbs - 1) (fun h => up x (by simp) (of_decide_eq_true h)) (by omega)
    show m ∈ stillIn _ _ _ b _ ++ stillW w n s _ ↔ _
    rw [List.mem_append, ih, hI, show plcIn w n m (x :: s) b = if x.natAbs - 1 = m % w then b + (if 0 < x then m / w else sz (x.natAbs - 1) w n - 1 - m / w) else plcIn w n m s (b + sz (x.natAbs - 1) w n) from rfl]
    by_cases e : x.natAbs - 1 = m % w
    · rw [if_pos e]
      have hlt : m / w < sz (x.natAbs - 1) w n ↔ m < n := by
        rw [lt_sz hw, e, Nat.mod_add_div]
      have hno : ¬ ∃ y ∈ s, y.natAbs - 1 = m % w := by
        rintro ⟨y, hy, ey⟩
        have hy1 := hx y (List.mem_cons_of_mem _ hy)
        exact nd.1 (List.mem_map.mpr ⟨y, hy, by omega⟩)
      rw [hlt]
      simp only [decide_eq_true_eq]
      constructor
      · rintro (⟨_, h2, h3⟩ | ⟨h, _⟩)
        · exact ⟨⟨x, by simp, e⟩, h2, h3⟩
        · exact absurd h hno
      · rintro ⟨_, h2, h3⟩
        exact .inl ⟨e.symm, h2, h3⟩
    · rw [if_neg e]
      constructor
      · rintro (⟨h1, _⟩ | ⟨⟨y, hy, ey⟩, h2, h3⟩)
        · exact absurd h1.symm e
        · exact ⟨⟨y, List.mem_cons_of_mem _ hy, ey⟩, h2, h3⟩
      · rintro ⟨⟨y, hy, ey⟩, h2, h3⟩
        rcases List.mem_cons.mp hy with rfl | hy
        · exact absurd ey e
        · exact .inr ⟨⟨y, hy, ey⟩, h2, h3⟩
theorem stillW_mod {w n : Nat} (hw : 0 < w) : ∀ {s : List Int} {b : Nat}, (∀ x ∈ s, 1 ≤ x.natAbs ∧ x.natAbs ≤ w) → (s.map Int.natAbs).Nodup → upOk w s → ((stillW w n s b).map (· % w)).Nodup
  | [], _, _, _, _ => List.nodup_nil
  | x :: s, b, hx, nd, up => by
    have hx0 := hx x (by simp)
    have nd := List.nodup_cons.mp (show (x.natAbs :: s.map Int.natAbs).Nodup from nd)
    have hx' : ∀ y ∈ s, 1 ≤ y.natAbs ∧ y.natAbs ≤ w := fun y hy => hx y (List.mem_cons_of_mem _ hy)
    have up' : upOk w s := fun y hy => up y (List.mem_cons_of_mem _ hy)
    have ih := stillW_mod (n := n) hw (s := s) (b := b + sz (x.natAbs - 1) w n) hx' nd.2 up'
    show ((stillIn _ _ _ b _ ++ stillW w n s _).map (· % w)).Nodup
    rw [List.map_append]
    refine List.nodup_append.mpr ⟨?_, ih, fun u hu v hv => ?_⟩
    · have := stillIn_len (w := w) (a := x.natAbs - 1) (b := b) (z := sz (x.natAbs - 1) w n) (up := decide (0 < x))
      match h : stillIn w (x.natAbs - 1) (decide (0 < x)) b (sz (x.natAbs - 1) w n), this with
      | [], _ => exact List.nodup_nil
      | [_], _ => exact List.pairwise_singleton _ _
      | _ :: _ :: _, h2 => exact absurd h2 (by rw [List.length_cons, List.length_cons]; omega)
    · obtain ⟨p, hp, rfl⟩ := List.mem_map.mp hu
      obtain ⟨q, hq, rfl⟩ := List.mem_map.mp hv
      have h1 := ((mem_stillIn (fun h => up x (by simp) (of_decide_eq_true h)) (by omega)).mp hp).1
      obtain ⟨⟨y, hy, ey⟩, _⟩ := (mem_stillW hw hx' nd.2 up').mp hq
      rintro e
      have hy1 := hx' y hy
      exact nd.1 (List.mem_map.mpr ⟨y, hy, by omega⟩)
def isAll (ss : List (List Int)) : Bool := decide (wideOf ss = 1 ∧ (ss.filter fun s => decide (s = [-1])).length % 2 = 0)
theorem one_step {s : List Int} (h : StepOk s) (h1 : s.length = 1) : s = [1] ∨ s = [-1] := by
  obtain ⟨x, rfl⟩ := List.length_eq_one_iff.mp h1
  have hp : ([x.natAbs] : List Nat).Perm [1] := h.2.2
  have : x.natAbs = 1 := by have := (List.perm_singleton.mp hp); simpa using this
  rcases Int.natAbs_eq x with e | e
  · left; rw [e, this]; rfl
  · right; rw [e, this]; rfl
theorem wide_one : ∀ {ss : List (List Int)}, (∀ s ∈ ss, StepOk s) → wideOf ss = 1 → ∀ s ∈ ss, s.length = 1 := by
  intro ss
  have gen : ∀ (ss : List (List Int)) (k : Nat), (∀ s ∈ ss, StepOk s) → 1 ≤ k → ss.foldl (fun a s => a * s.length) k = 1 → k = 1 ∧ ∀ s ∈ ss, s.length = 1 := by
    intro ss
    induction ss with
    | nil => intro k _ _ e; exact ⟨e, fun s h => by cases h⟩
    | cons s ss ih =>
      intro k h hk e
      have hs := (h s (by simp)).1
      obtain ⟨h1, h2⟩ := ih (k * s.length) (fun x hx => h x (List.mem_cons_of_mem _ hx)) (Nat.mul_pos hk hs) e
      have := Nat.eq_one_of_mul_eq_one_right h1
      have h3 := Nat.eq_one_of_mul_eq_one_left h1
      exact ⟨this, fun x hx => by rcases List.mem_cons.mp hx with rfl | hx; exact h3; exact h2 x hx⟩
  intro h e
  exact (gen ss 1 h (Nat.le_refl _) e).2
theorem all_order {ss : List (List Int)} (h : StepsOk ss) (n : Nat) : orderN ss (n % wideOf ss) = [1] ↔ isAll ss = true := by
  by_cases hw : wideOf ss = 1
  · have h1 := wide_one h.2 hw
    have h2 : ∀ s ∈ ss, s = [1] ∨ s = [-1] := fun s hs => one_step (h.2 s hs) (h1 s hs)
    rw [hw, Nat.mod_one]
    clear h1 hw
    match ss, h2, h.1 with
    | [], _, _ => decide
    | [a], h2, _ =>
      rcases h2 a (by simp) with rfl | rfl <;> decide
    | [a, b], h2, _ =>
      rcases h2 a (by simp) with rfl | rfl <;> rcases h2 b (by simp) with rfl | rfl <;> decide
    | [a, b, d], h2, _ =>
      rcases h2 a (by simp) with rfl | rfl <;> rcases h2 b (by simp) with rfl | rfl <;> rcases h2 d (by simp) with rfl | rfl <;> decide
    | _ :: _ :: _ :: _ :: _, _, h => simp at h
  · constructor
    · intro e
      have := orderN_len h.ords (n % wideOf ss)
      rw [e] at this
      exact absurd this.symm hw
    · intro e
      unfold isAll at e
      exact absurd (of_decide_eq_true e).1 hw
def stillN (ss : List (List Int)) (n : Nat) : List Nat := stillW (wideOf ss) n (orderN ss (n % wideOf ss)) 0
theorem up_order {ss : List (List Int)} (h : StepsOk ss) {n : Nat} (ha : isAll ss = false) : upOk (wideOf ss) (orderN ss (n % wideOf ss)) := by
  intro x hx hp
  have hpos := wideOf_pos h.ords
  by_cases hw : wideOf ss = 1
  · exfalso
    have hl := orderN_len h.ords (n % wideOf ss)
    rw [hw] at hl
    obtain ⟨y, hy⟩ := List.length_eq_one_iff.mp (show (orderN ss (n % wideOf ss)).length = 1 by rw [hw]; exact hl)
    have ok := ord_pos (orderN_ok h.ords (n % wideOf ss)) hx
    rw [hy] at hx ok
    rw [List.mem_singleton.mp hx] at hp ok
    have : y = 1 := by simp at ok; omega
    have h1 := (all_order h n).mp (by rw [hy, this])
    rw [ha] at h1; cases h1
  · omega
theorem mem_stillN {ss : List (List Int)} (h : StepsOk ss) {n m : Nat} (ha : isAll ss = false) : m ∈ stillN ss n ↔ m < n ∧ plcS ss n m = m := by
  have ok := orderN_ok h.ords (n % wideOf ss)
  have hl := orderN_len h.ords (n % wideOf ss)
  have hw := wideOf_pos h.ords
  unfold stillN
  rw [mem_stillW hw (fun x hx => by rw [← hl]; exact ord_pos ok hx) (ord_nodup ok) (up_order h ha)]
  constructor
  · rintro ⟨_, h2, h3⟩
    refine ⟨h2, ?_⟩
    rw [plcS_order h.ords h2]
    unfold plcBy; rw [hl]; exact h3
  · rintro ⟨h2, h3⟩
    rw [plcS_order h.ords h2] at h3
    unfold plcBy at h3; rw [hl] at h3
    obtain ⟨x, hx, ex⟩ := (ord_mem ok (a := m % wideOf ss)).mpr (by rw [hl]; exact Nat.mod_lt _ hw)
    exact ⟨⟨x, hx, by omega⟩, h2, h3⟩
theorem stillN_mod {ss : List (List Int)} (h : StepsOk ss) {n : Nat} (ha : isAll ss = false) : ((stillN ss n).map (· % wideOf ss)).Nodup := by
  have ok := orderN_ok h.ords (n % wideOf ss)
  have hl := orderN_len h.ords (n % wideOf ss)
  exact stillW_mod (wideOf_pos h.ords) (fun x hx => by rw [← hl]; exact ord_pos ok hx) (ord_nodup ok) (up_order h ha)
theorem stillN_len {ss : List (List Int)} (h : StepsOk ss) {n : Nat} : (stillN ss n).length ≤ 27 := by
  have := stillW_len (w := wideOf ss) (n := n) (s := orderN ss (n % wideOf ss)) (b := 0)
  rw [orderN_len h.ords] at this
  exact Nat.le_trans this (wide_le h).2
structure StillT (ss : List (List Int)) (n : Nat) (ms : List Nat) : Prop where
  mem : ∀ m, m ∈ ms ↔ m < n ∧ plcS ss n m = m
  inc : ms.Pairwise (· < ·)
  mod : (ms.map (· % wideOf ss)).Nodup
  few : ms.length ≤ 27
theorem still_told {ss : List (List Int)} (h : StepsOk ss) {n : Nat} (ha : isAll ss = false) {out : List Int} (hp : out.Perm ((stillN ss n).map fun m : Nat => (m : Int))) (hs : out.Pairwise (· ≤ ·)) : ∃ ms : List Nat, out = ms.map (fun m : Nat => (m : Int)) ∧ StillT ss n ms := by
  have e : out = (out.map Int.toNat).map fun m : Nat => (m : Int) := by
    rw [List.map_map]
    conv => lhs; rw [← List.map_id out]
    refine List.map_congr_left fun i hi => ?_
    obtain ⟨m, _, rfl⟩ := List.mem_map.mp (hp.mem_iff.mp hi)
    simp
  have hp2 : (out.map Int.toNat).Perm (stillN ss n) := by
    have := hp.map Int.toNat
    rw [List.map_map] at this
    simpa [Function.comp_def] using this
  have hmod : ((out.map Int.toNat).map (· % wideOf ss)).Nodup := (hp2.map _).nodup_iff.mpr (stillN_mod h ha)
  have hnd : (out.map Int.toNat).Nodup := by
    have := hmod
    unfold List.Nodup at this ⊢
    rw [List.pairwise_map] at this
    exact this.imp fun hne e => hne (by rw [e])
  refine ⟨out.map Int.toNat, e, fun m => by rw [hp2.mem_iff]; exact mem_stillN h ha, ?_, hmod, by rw [hp2.length_eq]; exact stillN_len h⟩
  have hle : (out.map Int.toNat).Pairwise (· ≤ ·) := by
    rw [List.pairwise_map]
    exact hs.imp fun h => by omega
  have := hle.and hnd
  exact this.imp fun ⟨h1, h2⟩ => Nat.lt_of_le_of_ne h1 h2
theorem sorted_ext {xs ys : List Nat} (hx : xs.Pairwise (· < ·)) (hy : ys.Pairwise (· < ·)) (h : ∀ m, m ∈ xs ↔ m ∈ ys) : xs = ys := by
  have nx : xs.Nodup := hx.imp fun h => Nat.ne_of_lt h
  have ny : ys.Nodup := hy.imp fun h => Nat.ne_of_lt h
  have hp : xs.Perm ys := (List.perm_ext_iff_of_nodup nx ny).mpr h
  exact hp.eq_of_pairwise (le := (· < ·)) (fun a b _ _ h1 h2 => absurd h1 (Nat.lt_asymm h2)) hx hy
end

section
open PySem PySem.Spec PyProof.Rows L2
open Evl (Ex)
section
variable {c : Cd} {N : List Str} {sc : Scope} {k : Nat} {Γ : Gx} {M : Mem} {nx_ : Gx → Mem → Prop} {rt_ : D → Mem → Prop} {bk_ ct_ : Gx → Mem → Prop} {e : Expr} {pos : Pos}
theorem s_asg {tg : Expr} (o : c.Ok N sc k) (hs : swapsWithSole [tg] e pos.line c.X.env = pure false) (hw : swappedStores [tg] e (envS sc) = pure none) (h1 : (assignEach [tg] c.X.env).map (·.2) = [assign tg c.X.env])
    (h : Ee c Γ M e fun d M1 => Eg c Γ M1 tg d nx_) : Es c Γ M (.Assign [tg] e pos) ⟨nx_, rt_, bk_, ct_⟩ :=
  s_of (ps_asg pe_sem pg_sem hs (by rw [sw_env, o.esc]; exact hw) h1) fun σ H H1 E tr sl r => h σ H H1 _ tr sl fun d M1 v H' H2 p t ex iv => p σ H' H2 v _ t (sl.mono ex) iv fun Γ2 M2 σ2 H3 H4 p2 t2 e2 s2 => r.nx _ M2 _ H3 H4 p2 t2 (ex.trans e2) s2
end
def wayI (up : Bool) : Int := if up then 1 else -1
def phStIn : Phi := fun ds M P _ => ∃ (w a b z : Nat) (up : Bool), ds = [dI w, dI a, dI (wayI up), dI b, dI z] ∧ (up = true → 2 ≤ w) ∧ a < w ∧ w ≤ 1000 ∧ ∀ r, P (.own r) ((r, .lst ((stillIn w a up b z).map natI)) :: M)
theorem ok_stIn {m : Md} {f : Addr} {fd : FuncData} {k : Nat} (F : Fun m.K "still_in" "still_in" S_still_in f fd) :
    FnOk m.P m.w m.K m.mg m.base CX0 (k + 1) f fd A_still_in (spOf m.G phStIn) := by
  refine fn_ok F sc_still_in (fun ds M P R h => by obtain ⟨w, a, b, z, up, rfl, _⟩ := h; rfl) (fun c ds M P R hc o hl h => ?_)
  subst hc
  obtain ⟨w, a, b, z, up, rfl, hup, ha, hw, p⟩ := h
  show Eb c [some (dI w), some (dI a), some (dI (wayI up)), some (dI b), some (dI z), none, none] M _ _
  refine b_cons' (by rfl) ?_
  refine s_asg o rfl rfl rfl ?_
  refine Ep.imp (P := fun d M1 => d = dT [.int (stTop a up b z), .int (stBot w up)] ∧ M = M1) ?_ fun d M1 h => ?_
  · repeat walk_at "x"
    cases up with
    | true =>
      refine ⟨fun _ => ?_, fun q => absurd q (by decide)⟩
      repeat walk_at "x"
      exact ⟨rfl, rfl⟩
    | false =>
      refine ⟨fun q => absurd q (by decide), fun _ => ?_⟩
      repeat walk_at "x"
      exact ⟨rfl, rfl⟩
  obtain ⟨rfl, rfl⟩ := h
  have hb : 0 < stBot w up ∧ stBot w up < 2000 := by
    cases up with
    | true => have := hup rfl; show (0 : Int) < w - 1 ∧ (w : Int) - 1 < 2000; omega
    | false => show (0 : Int) < w + 1 ∧ (w : Int) + 1 < 2000; omega
  generalize hT : stTop a up b z = T at *
  generalize hB : stBot w up = B at *
  have hst : stillIn w a up b z = if T < 0 ∨ T % B ≠ 0 ∨ (z : Int) ≤ T / B then [] else [(T / B).toNat * w + a] := by unfold stillIn; rw [hT, hB]
  walk_at "x"
  refine b_cons (s_if (Tp.imp (T := fun q M1 => q = decide (T < 0 ∨ T % B ≠ 0 ∨ (z : Int) ≤ T / B) ∧ M = M1) ?_ fun q M1 h => ?_))
  · repeat walk_at "x"
    refine ⟨fun h => ?_, fun h => ?_⟩
    · have h := of_decide_eq_true h
      exact ⟨(decide_eq_true (.inl h)).symm, rfl⟩
    have h1 := of_decide_eq_false h
    repeat walk_at "x"
    refine o_mod hb.1 ?_
    repeat walk_at "x"
    refine ⟨fun h => ?_, fun h => ?_⟩
    · have h : T % B ≠ 0 := by simpa using h
      exact ⟨(decide_eq_true (.inr (.inl h))).symm, rfl⟩
    have h2 : T % B = 0 := by simpa using h
    repeat walk_at "x"
    refine o_fdiv (cdivw hb.1 (by have : (2000 : Int) < 10 ^ 40 := by decide
                                  omega)) ?_
    repeat walk_at "x"
    exact ⟨decide_eq_decide.mpr ⟨fun h => .inr (.inr h), fun h => by
      rcases h with h | h | h
      · exact absurd h h1
      · exact absurd h2 h
      · exact h⟩, rfl⟩
  obtain ⟨rfl, rfl⟩ := h
  refine ⟨fun h => ?_, fun h => ?_⟩
  · have h := of_decide_eq_true h
    repeat walk_at "x"
    refine e_lstO ?_
    repeat walk_at "x"
    intro r
    have := p r
    rw [hst, if_pos h] at this
    exact this
  have h := of_decide_eq_false h
  have hq : 0 ≤ T / B := Int.ediv_nonneg (by omega) (by omega)
  repeat walk_at "x"
  refine e_lstO ?_
  repeat walk_at "x"
  refine o_fdiv (cdivw hb.1 (by have : (2000 : Int) < 10 ^ 40 := by decide
                                omega)) ?_
  repeat walk_at "x"
  refine om_int (.inr ⟨by omega, by omega⟩) ?_
  repeat walk_at "x"
  intro r
  have := p r
  rw [hst, if_neg h] at this
  rw [show T / B * (w : Int) + (a : Int) = (((T / B).toNat * w + a : Nat) : Int) by push_cast; rw [Int.toNat_of_nonneg hq]]
  exact this
end

section
open PySem PySem.Spec PyProof.Rows L2
open Evl (Ex)
def phStill (I T : Addr) : Phi := fun ds M P R => ∃ (ss : List (List Int)) (d : PyData), ds = [.scr (ssD ss), .p d] ∧ StepsOk ss ∧ (lenOk d = false → R I [] M) ∧ (lenOk d = true → isAll ss = true → R T [] M) ∧
  ∀ n : Nat, d = natI n → n ≤ TOP → isAll ss = false → ∀ b ms, StillT ss n ms → P (.own b) ((b, .lst (ms.map natI)) :: M)
theorem ok_still {m : Md} {f I T : Addr} {fd : FuncData} {k j : Nat} (F : Fun m.K "still" "still" S_still f fd) (F1 : Fd m (L2.CX m.P m.w) k "check_length" (phChkG I)) (F2 : Fd m CX0 k "order_for" phOrdFor) (F3 : Fd m CX0 k "column_size" phSize) (F4 : Fd m CX0 k "still_in" phStIn)
    (ET : ErrK m j "AllStill" T (sp0 T)) (hj : j + 1 ≤ k) (S : ClsS m) (FW : PrS m (k - 1) "wide" phWide) (hk : 1 ≤ k) (m1 : m.mg "abs" = none) (m2 : m.mg "sorted" = none) :
    FnOk m.P m.w m.K m.mg m.base (L2.CX m.P m.w) (k + 1) f fd A_still (spOf m.G (phStill I T)) := by
  refine fn_okX F sc_still (fun ds M P R h => by obtain ⟨ss, d, rfl, _⟩ := h; rfl) (fun c ds M P R hc o hl hR h => ?_)
  subst hc
  obtain ⟨ss, d, rfl, hs, hr1, hr2, p⟩ := h
  have hw0 := (wide_le hs).1
  have hw27 := (wide_le hs).2
  show Eb c [some (.scr (ssD ss)), some (.p d), none, none, none, none, none, none, none] M _ _
  refine sq_ret ?_
  refine b_cons' (by rfl) ?_
  walk_at "x"
  refine e_callX (φ := phChkG I) (j := k) F1 o (Nat.le_refl _) rfl (by decide) rfl rfl ?_
  repeat walk_at "x"
  refine ⟨d, rfl, fun hd => ?_, fun hd => ?_⟩
  · rw [hR]; exact hr1 hd
  obtain ⟨n, rfl, hn⟩ := len_nat hd
  have p := p n rfl hn
  have hr2 := hr2 hd
  unfold natI
  repeat walk_at "x"
  refine ⟨⟨_, rfl⟩, ss, rfl, hs, ?_⟩
  repeat walk_at "x"
  refine o_mod (by omega) ?_
  rw [← Int.natCast_emod]
  repeat walk_at "x"
  refine ⟨ss, _, rfl, hs, ?_⟩
  repeat walk_at "x"
  refine oe_c sC (orderN ss (n % wideOf ss)) [1] (.p _) (.p _) rfl ?_
  refine ⟨_, rfl, fun h => ?_, fun h => ?_⟩
  · have h := (all_order hs n).mp (of_decide_eq_true h)
    repeat walk_at "x"
    refine s_raise0 ET o hj rfl (by decide) ?_
    rw [hR]
    exact hr2 h
  have ha : isAll ss = false := by
    have h := of_decide_eq_false h
    rw [all_order hs n] at h
    simpa using h
  have p := p ha
  have ok := orderN_ok hs.ords (n % wideOf ss)
  have hol := orderN_len hs.ords (n % wideOf ss)
  have hup := up_order hs (n := n) ha
  have hsN : stillN ss n = stillW (wideOf ss) n (orderN ss (n % wideOf ss)) 0 := rfl
  generalize hO : orderN ss (n % wideOf ss) = O at *
  generalize hW : wideOf ss = w at *
  repeat walk_at "x"
  refine e_lstO ?_
  repeat walk_at "x"
  intro b0
  repeat walk_at "x"
  refine ⟨_, _, rfl, ?_⟩
  show Eb c [some (.scr (ssD ss)), some (dI n), some (dI w), some (.p (sD O)), some (.own b0), some (dI 0), none, none, none] ((b0, Cell.lst []) :: M) _ _
  repeat walk_at "x"
  refine i_tup o ?_
  repeat walk_at "x"
  rw [List.length_map]
  refine ⟨fun i Γ' M' => ∃ b y6 y7 y8, Γ' = [some (.scr (ssD ss)), some (dI n), some (dI w), some (.p (sD O)), some (.own b), some (dI (begB w n (O.take i))), y6, y7, y8] ∧ Conv c.G M' ((b, Cell.lst ((stillW w n (O.take i) 0).map natI)) :: M),
    ⟨b0, _, _, _, rfl, Conv.refl⟩, fun _ _ _ _ _ => trivial, fun i Γ' M' hi hJ => ?_, fun Γ' M' hJ => ?_⟩
  · obtain ⟨b, y6, y7, y8, rfl, hM⟩ := hJ
    have hx := ord_pos ok (List.getElem_mem hi)
    have hu := hup O[i] (List.getElem_mem hi)
    have hsn := stillW_snoc (w := w) (n := n) (x := O[i]) (s := O.take i) (b := 0)
    have hbn := begB_snoc w n (O.take i) O[i]
    have hln := stillW_len (w := w) (n := n) (s := O.take i) (b := 0)
    rw [← List.take_succ_eq_append_getElem hi] at hsn hbn
    rw [List.length_take] at hln
    rw [Nat.zero_add] at hsn
    dsimp only
    rw [getD_map hi]
    generalize O[i] = x at *
    have hab : (if x < 0 then -x else x) - 1 = ((x.natAbs - 1 : Nat) : Int) := by omega
    walk_at "x"
    refine sq_conv hM ?_
    repeat walk_at "x"
    rw [hab]
    refine ⟨w, n, x.natAbs - 1, rfl, by omega, by omega, ?_⟩
    repeat walk_at "x"
    refine ⟨b, _, rfl, .head _, ?_⟩
    repeat ((fail_if_success (with_reducible show Ee _ _ _ (.IfExp _ _ _ _) _)); walk_at "x")
    refine Ep.imp (P := fun d M1 => d = dI (wayI (decide (0 < x))) ∧ (b, Cell.lst ((stillW w n (O.take i) 0).map natI)) :: M = M1) ?_ fun d M1 h => ?_
    · repeat walk_at "x"
      refine ⟨fun h => ?_, fun h => ?_⟩
      · have h : 0 < x := of_decide_eq_true h
        repeat walk_at "x"
        exact ⟨by rw [decide_eq_true h]; rfl, rfl⟩
      · have h : ¬ 0 < x := of_decide_eq_false h
        repeat walk_at "x"
        exact ⟨by rw [decide_eq_false h]; rfl, rfl⟩
    obtain ⟨rfl, rfl⟩ := h
    repeat walk_at "x"
    refine ⟨w, x.natAbs - 1, begB w n (O.take i), sz (x.natAbs - 1) w n, decide (0 < x), rfl, fun h => hu (of_decide_eq_true h), by omega, by omega, fun r => ?_⟩
    have hln1 := stillIn_len (w := w) (a := x.natAbs - 1) (b := begB w n (O.take i)) (z := sz (x.natAbs - 1) w n) (up := decide (0 < x))
    refine ⟨1, _, _, rfl, .own (.head _), by rw [List.length_map, List.length_map]; omega, ?_⟩
    repeat walk_at "x"
    rw [hbn, hsn]
    refine ⟨b, _, _, _, rfl, ?_⟩
    rw [List.map_append]
    exact Conv.sub (.cons _ (.refl _))
  · obtain ⟨b, y6, y7, y8, rfl, hM⟩ := hJ
    rw [List.take_length] at hM
    have hln := stillW_len (w := w) (n := n) (s := O) (b := 0)
    refine sq_conv hM ?_
    repeat walk_at "x"
    refine c_sorted (ns := (stillW w n O 0).map fun m : Nat => (m : Int)) (by rw [List.map_map]; exact .own (.head _)) (by rw [List.length_map]; omega) fun b2 ns' hp hsr => ?_
    rw [← hsN] at hp
    obtain ⟨ms, rfl, hms⟩ := still_told hs ha hp hsr
    refine ⟨_, ?_, p b2 ms hms⟩
    rw [List.map_map]
    exact Conv.sub (.cons_cons _ (.cons _ (.refl _)))
end

section
open PySem PySem.Spec PyProof.Rows L2
open Evl (Ex)
theorem nodup_few {α : Type} [DecidableEq α] : ∀ {xs ys : List α}, xs.Nodup → (∀ x ∈ xs, x ∈ ys) → xs.length ≤ ys.length
  | [], _, _, _ => Nat.zero_le _
  | x :: xs, ys, nd, h => by
    have hx := h x (by simp)
    have nd2 := List.nodup_cons.mp nd
    have ih := nodup_few (xs := xs) (ys := ys.erase x) nd2.2 fun y hy => (List.mem_erase_of_ne (fun e => nd2.1 (by rw [← e]; exact hy))).mpr (h y (List.mem_cons_of_mem _ hy))
    rw [List.length_erase_of_mem hx] at ih
    have := List.length_pos_of_mem hx
    rw [List.length_cons]; omega
structure Pm (n : Nat) (f : Nat → Nat) : Prop where
  lt : ∀ i, i < n → f i < n
  inj : ∀ i j, i < n → j < n → f i = f j → i = j
def itr (f : Nat → Nat) : Nat → Nat → Nat
  | 0, i => i
  | k + 1, i => f (itr f k i)
section
variable {n : Nat} {f : Nat → Nat}
theorem itr_lt (h : Pm n f) : ∀ (k : Nat) {i : Nat}, i < n → itr f k i < n
  | 0, _, hi => hi
  | k + 1, _, hi => h.lt _ (itr_lt h k hi)
theorem itr_add : ∀ (k j i : Nat), itr f (k + j) i = itr f k (itr f j i)
  | 0, j, i => by rw [Nat.zero_add]; rfl
  | k + 1, j, i => by rw [Nat.succ_add]; show f (itr f (k + j) i) = f (itr f k (itr f j i)); rw [itr_add k j i]
theorem itr_one (k i : Nat) : itr f (k + 1) i = itr f k (f i) := itr_add k 1 i
theorem itr_inj (h : Pm n f) : ∀ (k : Nat) {i j : Nat}, i < n → j < n → itr f k i = itr f k j → i = j
  | 0, _, _, _, _, e => e
  | k + 1, _, _, hi, hj, e => itr_inj h k hi hj (h.inj _ _ (itr_lt h k hi) (itr_lt h k hj) e)
theorem itr_mul (p i : Nat) (h : itr f p i = i) : ∀ q : Nat, itr f (p * q) i = i
  | 0 => rfl
  | q + 1 => by rw [Nat.mul_succ, itr_add, h, itr_mul p i h q]
structure Per (f : Nat → Nat) (i p : Nat) : Prop where
  pos : 0 < p
  ret : itr f p i = i
  fst : ∀ j, 0 < j → j < p → itr f j i ≠ i
theorem Per.dvd {i p : Nat} (h : Per f i p) (k : Nat) : p ∣ k ↔ itr f k i = i := by
  constructor
  · rintro ⟨q, rfl⟩
    exact itr_mul p i h.ret q
  · intro e
    have h1 : itr f (k % p) i = i := by
      have h2 := itr_add (f := f) (k % p) (p * (k / p)) i
      rw [Nat.mod_add_div, e, itr_mul p i h.ret] at h2
      exact h2.symm
    have hlt := Nat.mod_lt k h.pos
    rcases Nat.eq_zero_or_pos (k % p) with h0 | h0
    · exact Nat.dvd_of_mod_eq_zero h0
    · exact absurd h1 (h.fst _ h0 hlt)
structure Seen (n : Nat) (f : Nat → Nat) (b : Nat) (vs : List Nat) (L : Nat) : Prop where
  nd : vs.Nodup
  lt : ∀ x ∈ vs, x < n
  cl : ∀ x, x < n → (f x ∈ vs ↔ x ∈ vs)
  fst : ∀ i, i < b → i ∈ vs
  pos : 0 < L
  dvd : ∀ k, L ∣ k ↔ ∀ x ∈ vs, itr f k x = x
theorem Seen.nil : Seen n f 0 [] 1 := ⟨List.nodup_nil, by simp, by simp, by omega, Nat.one_pos, fun k => ⟨fun _ x h => (by cases h), fun _ => Nat.one_dvd k⟩⟩
theorem Seen.old {b : Nat} {vs : List Nat} {L : Nat} (h : Seen n f b vs L) (hb : b ∈ vs) : Seen n f (b + 1) vs L :=
  ⟨h.nd, h.lt, h.cl, fun i hi => by
    rcases Nat.lt_succ_iff_lt_or_eq.mp hi with h1 | rfl
    · exact h.fst i h1
    · exact hb, h.pos, h.dvd⟩
def orb (f : Nat → Nat) (b m : Nat) : List Nat := (List.range m).map fun q => itr f q b
theorem orb_succ (b m : Nat) : orb f b (m + 1) = orb f b m ++ [itr f m b] := by unfold orb; rw [List.range_succ, List.map_append]; rfl
theorem mem_orb {b m x : Nat} : x ∈ orb f b m ↔ ∃ q, q < m ∧ itr f q b = x := by
  unfold orb; rw [List.mem_map]; simp only [List.mem_range]
theorem Seen.back {b : Nat} {vs : List Nat} {L : Nat} (p : Pm n f) (h : Seen n f b vs L) : ∀ (k : Nat) {x : Nat}, x < n → (itr f k x ∈ vs ↔ x ∈ vs)
  | 0, _, _ => Iff.rfl
  | k + 1, _, hx => (h.cl _ (itr_lt p k hx)).trans (Seen.back p h k hx)
theorem Seen.per {b m : Nat} {vs : List Nat} {L : Nat} (p : Pm n f) (h : Seen n f b vs L) (hb : b < n) (hbv : b ∉ vs) (hm : 0 < m) (nd : (vs ++ orb f b m).Nodup) (hit : itr f m b ∈ vs ++ orb f b m) : Per f b m := by
  rcases List.mem_append.mp hit with h1 | h1
  · exact absurd ((h.back p m hb).mp h1) hbv
  · obtain ⟨q, hq, e⟩ := mem_orb.mp h1
    have nd2 := (List.nodup_append.mp nd).2.1
    have inj : ∀ i j, i < m → j < m → itr f i b = itr f j b → i = j := fun i j hi hj e => by
      unfold orb at nd2
      have := List.pairwise_map.mp nd2
      rcases Nat.lt_trichotomy i j with z | z | z
      · exact absurd e ((List.pairwise_iff_getElem.mp this) i j (by simpa using hi) (by simpa using hj) z |> fun w => by simpa using w)
      · exact z
      · exact absurd e.symm ((List.pairwise_iff_getElem.mp this) j i (by simpa using hj) (by simpa using hi) z |> fun w => by simpa using w)
    have e2 : itr f (m - q) b = b := by
      have e3 : itr f m b = itr f q (itr f (m - q) b) := by rw [← itr_add]; congr 1; omega
      rw [e3] at e
      exact (itr_inj p q hb (itr_lt p _ hb) e).symm
    have hq0 : q = 0 := by
      rcases Nat.eq_zero_or_pos q with z | z
      · exact z
      · exact absurd (inj (m - q) 0 (by omega) hm e2) (by omega)
    subst hq0
    exact ⟨hm, e2, fun j h1 h2 e => absurd (inj j 0 h2 hm e) (by omega)⟩
theorem lcm_dvd {a b k : Nat} (ha : 0 < a) (hb : 0 < b) : a / Nat.gcd a b * b ∣ k ↔ a ∣ k ∧ b ∣ k := by
  have hg := Nat.gcd_pos_of_pos_left b ha
  have e : a / Nat.gcd a b * b = Nat.lcm a b := by
    unfold Nat.lcm
    rw [Nat.div_mul_right_comm (Nat.gcd_dvd_left a b)]
  rw [e, Nat.lcm_dvd_iff]
theorem Seen.new {b m : Nat} {vs : List Nat} {L : Nat} (p : Pm n f) (h : Seen n f b vs L) (hb : b < n) (hbv : b ∉ vs) (hm : 0 < m) (nd : (vs ++ orb f b m).Nodup) (hit : itr f m b ∈ vs ++ orb f b m) : Seen n f (b + 1) (vs ++ orb f b m) (L / Nat.gcd L m * m) := by
  have per := h.per p hb hbv hm nd hit
  have hg := Nat.gcd_pos_of_pos_left m h.pos
  refine ⟨nd, fun x hx => ?_, fun x hx => ?_, fun i hi => ?_, ?_, fun k => ?_⟩
  · rcases List.mem_append.mp hx with hx | hx
    · exact h.lt x hx
    · obtain ⟨q, _, rfl⟩ := mem_orb.mp hx; exact itr_lt p q hb
  · rw [List.mem_append, List.mem_append, h.cl x hx]
    refine or_congr Iff.rfl ?_
    rw [mem_orb, mem_orb]
    constructor
    · rintro ⟨q, hq, e⟩
      cases q with
      | zero =>
        have e2 : f (itr f (m - 1) b) = f x := by
          have := per.ret
          rw [show m = (m - 1) + 1 by omega] at this
          have e : b = f x := e
          rw [← e]; exact this
        exact ⟨m - 1, by omega, p.inj _ _ (itr_lt p _ hb) hx e2⟩
      | succ q => exact ⟨q, by omega, p.inj _ _ (itr_lt p _ hb) hx e⟩
    · rintro ⟨q, hq, rfl⟩
      by_cases z : q + 1 = m
      · exact ⟨0, hm, by have := per.ret; rw [← z] at this; exact this.symm⟩
      · exact ⟨q + 1, by omega, rfl⟩
  · rcases Nat.lt_succ_iff_lt_or_eq.mp hi with h1 | rfl
    · exact List.mem_append_left _ (h.fst i h1)
    · exact List.mem_append_right _ (mem_orb.mpr ⟨0, hm, rfl⟩)
  · exact Nat.mul_pos (Nat.div_pos (Nat.le_of_dvd h.pos (Nat.gcd_dvd_left L m)) hg) hm
  · rw [lcm_dvd h.pos hm, h.dvd, per.dvd]
    constructor
    · rintro ⟨h1, h2⟩ x hx
      rcases List.mem_append.mp hx with hx | hx
      · exact h1 x hx
      · obtain ⟨q, _, rfl⟩ := mem_orb.mp hx
        rw [← itr_add, Nat.add_comm, itr_add, h2]
    · intro h1
      exact ⟨fun x hx => h1 x (List.mem_append_left _ hx), h1 b (List.mem_append_right _ (mem_orb.mpr ⟨0, hm, rfl⟩))⟩
structure RoundT (n : Nat) (f : Nat → Nat) (L : Nat) : Prop where
  pos : 0 < L
  dvd : ∀ k, L ∣ k ↔ ∀ x, x < n → itr f k x = x
theorem Seen.all {vs : List Nat} {L : Nat} (h : Seen n f n vs L) : RoundT n f L :=
  ⟨h.pos, fun k => (h.dvd k).trans ⟨fun g x hx => g x (h.fst x hx), fun g x hx => g x (h.lt x hx)⟩⟩
end
def nbr (ss : List (List Int)) (n : Nat) (i : Nat) : Nat := (doneIt ss (List.range n)).getD i 0
theorem nbr_get {ss : List (List Int)} (h : ∀ s ∈ ss, OrdOk s) {n i : Nat} (hi : i < n) : (doneIt ss (List.range n))[i]? = some (nbr ss n i) := by
  unfold nbr
  rw [List.getD_eq_getElem?_getD, List.getElem?_eq_getElem (by rw [doneIt_len h, List.length_range]; exact hi)]; rfl
theorem nbr_pm {ss : List (List Int)} (h : ∀ s ∈ ss, OrdOk s) (n : Nat) : Pm n (nbr ss n) := by
  have hp := perm_doneR h n
  have hnd := nodup_doneR h n
  refine ⟨fun i hi => ?_, fun i j hi hj e => ?_⟩
  · exact List.mem_range.mp (hp.mem_iff.mp (List.mem_of_getElem? (nbr_get h hi)))
  · exact nodup_idx hnd (nbr_get h hi) (by rw [e]; exact nbr_get h hj)
end

section
open PySem PySem.Spec PyProof.Rows L2
open Evl (Ex)
def phDiv : Phi := fun ds M P _ => ∃ a b : Nat, ds = [dI a, dI b] ∧ P (dI (Nat.gcd a b)) M
theorem ok_divisor {m : Md} {f : Addr} {fd : FuncData} {k : Nat} (F : Fun m.K "divisor" "divisor" S_divisor f fd) :
    FnOk m.P m.w m.K m.mg m.base CX0 (k + 1) f fd A_divisor (spOf m.G phDiv) := by
  refine fn_ok F sc_divisor (fun ds M P R h => by obtain ⟨a, b, rfl, _⟩ := h; rfl) (fun c ds M P R hc o hl h => ?_)
  subst hc
  obtain ⟨a, b, rfl, p⟩ := h
  show Eb c [some (dI a), some (dI b)] M _ _
  refine b_cons' (by rfl) ?_
  refine s_while o (fun m Γ' M' => ∃ x y : Nat, m = y ∧ Nat.gcd x y = Nat.gcd a b ∧ Γ' = [some (dI x), some (dI y)] ∧ M' = M) ⟨b, a, b, rfl, rfl, rfl, rfl⟩ ?_
  rintro m Γ' M' ⟨x, y, rfl, hg, rfl, rfl⟩
  repeat walk_at "x"
  refine ⟨fun h => ?_, fun h => ?_⟩
  · have h : 0 < m := by have := of_decide_eq_true h; omega
    repeat walk_at "x"
    refine o_mod (by omega) ?_
    rw [← Int.natCast_emod]
    repeat walk_at "x"
    refine ⟨_, _, rfl, ?_⟩
    repeat walk_at "x"
    exact ⟨x % m, Nat.mod_lt x h, m, x % m, rfl, by rw [← hg, Nat.gcd_comm x m, Nat.gcd_rec m x, Nat.gcd_comm], rfl, rfl⟩
  · have h : m = 0 := by have := of_decide_eq_false h; omega
    subst h
    rw [Nat.gcd_zero_right] at hg
    repeat walk_at "x"
    rw [hg]
    exact p
end

section
open PySem PySem.Spec PyProof.Rows L2
open Evl (Ex)
theorem rg_natR (n : Nat) : (rgI 0 n).map PyData.int = (List.range n).map natI := by
  unfold rgI
  rw [List.map_map, show ((n : Int) - 0).toNat = n by omega]
  exact List.map_congr_left fun i _ => by simp [natI]
def dkv (vs : List Nat) : List (Key × D) := vs.map fun j : Nat => ((Sum.inl (j : Int) : Key), dB true)
theorem dk_look (j : Nat) : ∀ vs : List Nat, (lkD (dkv vs) (.inl (j : Int))).isSome = decide (j ∈ vs)
  | [] => rfl
  | v :: vs => by
    have ih := dk_look j vs
    unfold lkD dkv at *
    rw [List.map_cons, List.find?_cons]
    by_cases e : v = j
    · subst e
      simp
    · have e2 : ¬ ((Sum.inl (v : Int) : Key) = Sum.inl (j : Int)) := fun z => e (by injection z with z; omega)
      rw [decide_eq_false e2]
      dsimp only
      rw [ih]
      exact decide_eq_decide.mpr (by rw [List.mem_cons]; exact ⟨.inr, fun h => h.elim (fun z => absurd z.symm e) id⟩)
theorem dk_put {j : Nat} {vs : List Nat} (h : j ∉ vs) : putD (dkv vs) (.inl (j : Int)) (dB true) = dkv (vs ++ [j]) := by
  unfold putD
  rw [if_neg]
  · unfold dkv; rw [List.map_append]; rfl
  · intro z
    obtain ⟨kv, hk, e⟩ := List.any_eq_true.mp z
    obtain ⟨v, hv, rfl⟩ := List.mem_map.mp hk
    have e := of_decide_eq_true e
    injection e with e
    exact h (by rw [← show v = j by omega]; exact hv)
def phRounds (I : Addr) : Phi := fun ds M P R => ∃ (ss : List (List Int)) (d : PyData), ds = [.scr (ssD ss), .p d] ∧ StepsOk ss ∧ (lenOk d = false → R I [] M) ∧ (lenOk d = true → ∃ n : Nat, d = natI n ∧ n ≤ 1000 ∧ ∀ L : Nat, RoundT n (nbr ss n) L → P (dI L) M)
theorem ok_rounds {m : Md} {f I : Addr} {fd : FuncData} {k : Nat} (F : Fun m.K "rounds" "rounds" S_rounds f fd) (F1 : Fd m (L2.CX m.P m.w) k "check_length" (phChkG I)) (F2 : Fd m CX0 k "done_items" phDnI) (F3 : Fd m CX0 k "divisor" phDiv) (S : ClsS m) (m1 : m.mg "list" = none) (m2 : m.mg "range" = none) :
    FnOk m.P m.w m.K m.mg m.base (L2.CX m.P m.w) (k + 1) f fd A_rounds (spOf m.G (phRounds I)) := by
  refine fn_okX F sc_rounds (fun ds M P R h => by obtain ⟨ss, d, rfl, _⟩ := h; rfl) (fun c ds M P R hc o hl hR h => ?_)
  subst hc
  obtain ⟨ss, d, rfl, hs, hr1, p⟩ := h
  show Eb c [some (.scr (ssD ss)), some (.p d), none, none, none, none, none, none] M _ _
  refine sq_ret ?_
  refine b_cons' (by rfl) ?_
  walk_at "x"
  refine e_callX (φ := phChkG I) (j := k) F1 o (Nat.le_refl _) rfl (by decide) rfl rfl ?_
  repeat walk_at "x"
  refine ⟨d, rfl, fun hd => ?_, fun hd => ?_⟩
  · rw [hR]; exact hr1 hd
  obtain ⟨n, rfl, hn, p⟩ := p hd
  have pm := nbr_pm hs.ords n
  have hget := fun {i} => @nbr_get ss hs.ords n i
  have hlen : (doneIt ss (List.range n)).length = n := by rw [doneIt_len hs.ords, List.length_range]
  unfold natI
  repeat walk_at "x"
  refine ⟨⟨by omega, by omega⟩, fun a0 => ?_⟩
  rw [rg_natR]
  repeat walk_at "x"
  refine ⟨ss, _, _, rfl, fun s h => ⟨hs.ords s h, by have := (hs.2 s h).2.1; omega⟩, .inl (.own (.head _)), by simp; omega, fun b => ?_⟩
  rw [doneIt_map]
  generalize hns : doneIt ss (List.range n) = ns at hget hlen
  generalize nbr ss n = g at *
  repeat walk_at "x"
  refine e_dct0 fun sd => ?_
  repeat walk_at "x"
  refine ⟨_, _, _, rfl, ?_⟩
  refine sq_conv (M2 := (sd, Cell.dic []) :: (b, Cell.lst (ns.map natI)) :: M) (Conv.sub (.cons_cons _ (.cons_cons _ (.cons _ (.refl _))))) ?_
  show Eb c [some (.scr (ssD ss)), some (dI n), some (.own b), some (.own sd), some (dI 1), none, none, none] _ _ _
  repeat walk_at "x"
  refine ⟨⟨by omega, by omega⟩, ?_⟩
  rw [Int.toNat_natCast]
  refine ⟨fun i Γ' M' => ∃ (vs : List Nat) (L : Nat) (y5 y6 y7 : Option D), Seen n g i vs L ∧ Γ' = [some (.scr (ssD ss)), some (dI n), some (.own b), some (.own sd), some (dI L), y5, y6, y7] ∧ M' = (sd, Cell.dic (dkv vs)) :: (b, Cell.lst (ns.map natI)) :: M,
    ⟨[], 1, _, _, _, Seen.nil, rfl, rfl⟩, fun _ _ _ _ _ => trivial, fun i Γ' M' hi hj => ?_, fun Γ' M' hj => ?_⟩
  · obtain ⟨vs, L, y5, y6, y7, hv, rfl, rfl⟩ := hj
    repeat walk_at "x"
    refine ⟨_, _, rfl, ?_⟩
    show Eb c [some (.scr (ssD ss)), some (dI n), some (.own b), some (.own sd), some (dI L), some (dI i), some (dI (0 : Nat)), some (dI i)] _ _ _
    refine b_cons ?_
    refine s_while o (fun m Γ' M' => ∃ q : Nat, m = n - (vs ++ orb g i q).length ∧ (vs ++ orb g i q).Nodup ∧ Γ' = [some (.scr (ssD ss)), some (dI n), some (.own b), some (.own sd), some (dI L), some (dI i), some (dI q), some (dI (itr g q i))] ∧ M' = (sd, Cell.dic (dkv (vs ++ orb g i q))) :: (b, Cell.lst (ns.map natI)) :: M) ⟨_, 0, rfl, by simp [orb]; exact hv.nd, rfl, by simp [orb]⟩ ?_
    rintro m Γ' M' ⟨q, rfl, hnd, rfl, rfl⟩
    have hlt : itr g q i < n := itr_lt pm q hi
    have hall : ∀ x ∈ vs ++ orb g i q, x < n := fun x hx => by
      rcases List.mem_append.mp hx with hx | hx
      · exact hv.lt x hx
      · obtain ⟨r, _, rfl⟩ := mem_orb.mp hx; exact itr_lt pm r hi
    repeat walk_at "x"
    refine o_inDic (ky := .inl ((itr g q i : Nat) : Int)) (.head _) rfl ?_
    rw [if_pos rfl, dk_look]
    refine ⟨_, rfl, fun hz => ?_, fun hz => ?_⟩
    · have hz : itr g q i ∉ vs ++ orb g i q := by simpa using hz
      have hnd2 : (vs ++ orb g i (q + 1)).Nodup := by
        rw [orb_succ, ← List.append_assoc]
        refine List.nodup_append.mpr ⟨hnd, by simp, fun x hx y hy => ?_⟩
        rw [List.mem_singleton.mp hy]
        rintro rfl; exact hz hx
      have hle2 : (vs ++ orb g i (q + 1)).length ≤ n := by
        have := nodup_few (ys := List.range n) hnd2 fun x hx => by
          rw [orb_succ, ← List.append_assoc] at hx
          rcases List.mem_append.mp hx with hx | hx
          · exact List.mem_range.mpr (hall x hx)
          · rw [List.mem_singleton.mp hx]; exact List.mem_range.mpr hlt
        rwa [List.length_range] at this
      have hl2 : (vs ++ orb g i (q + 1)).length = (vs ++ orb g i q).length + 1 := by rw [orb_succ, ← List.append_assoc, List.length_append]; rfl
      repeat walk_at "x"
      refine ⟨sd, _, 0, 0, rfl, rfl, .inr (.inr ⟨_, rfl, ?_, ?_⟩)⟩
      · unfold dkv; rw [List.length_map]; omega
      rw [dk_put hz]
      repeat walk_at "x"
      refine ox_lst (.own (.tail _ (.head _))) (j := itr g q i) (p := natI (g (itr g q i))) (by rw [List.getElem?_map, hget hlt]; rfl) (.inl rfl) ?_
      unfold natI
      repeat walk_at "x"
      refine ⟨_, _, rfl, ?_⟩
      repeat walk_at "x"
      refine ⟨n - (vs ++ orb g i (q + 1)).length, by omega, q + 1, rfl, hnd2, rfl, ?_⟩
      rw [orb_succ, ← List.append_assoc]; rfl
    · have hz : itr g q i ∈ vs ++ orb g i q := by
        cases h : decide (itr g q i ∈ vs ++ orb g i q) with
        | true => exact of_decide_eq_true h
        | false => rw [h] at hz; cases hz
      repeat walk_at "x"
      refine ⟨fun hq => ?_, fun hq => ?_⟩
      · have hq : 0 < q := by have := of_decide_eq_true hq; omega
        by_cases hiv : i ∈ vs
        · exfalso
          have hnd3 := List.nodup_append.mp hnd
          exact hnd3.2.2 i hiv i (mem_orb.mpr ⟨0, hq, rfl⟩) rfl
        have hnew := hv.new pm hi hiv hq hnd hz
        have hqn : q ≤ n := by
          have := nodup_few (ys := List.range n) hnd fun x hx => List.mem_range.mpr (hall x hx)
          rw [List.length_append, List.length_range] at this
          have : (orb g i q).length = q := by simp [orb]
          omega
        have hgl : Nat.gcd L q ≤ q := Nat.le_of_dvd hq (Nat.gcd_dvd_right L q)
        have hg0 : 0 < Nat.gcd L q := Nat.gcd_pos_of_pos_right L hq
        repeat walk_at "x"
        refine ⟨L, q, rfl, ?_⟩
        refine o_fdiv (cdivw (by omega) (by have : (1000 : Int) < 10 ^ 40 := by decide
                                            omega)) ?_
        repeat walk_at "x"
        refine om_int (.inr ⟨by omega, by omega⟩) ?_
        repeat walk_at "x"
        rw [show (L : Int) / (Nat.gcd L q : Int) * (q : Int) = ((L / Nat.gcd L q * q : Nat) : Int) by rw [Int.natCast_mul, Int.natCast_ediv]]
        exact ⟨_, L / Nat.gcd L q * q, _, _, _, hnew, rfl, rfl⟩
      · have hq : q = 0 := by have := of_decide_eq_false hq; omega
        subst hq
        have hiv : i ∈ vs := by
          rcases List.mem_append.mp hz with h | h
          · exact h
          · simp [orb] at h
        repeat walk_at "x"
        refine ⟨vs, L, _, _, _, hv.old hiv, rfl, ?_⟩
        simp [orb]
  · obtain ⟨vs, L, y5, y6, y7, hv, rfl, rfl⟩ := hj
    repeat walk_at "x"
    exact ⟨M, Conv.drop.trans Conv.drop, p L hv.all⟩
end

section
open PySem PySem.Spec PyProof.Rows L2
open Evl (Ex)
theorem zip_noLen : typeLookup (.type "zip") "__len__" = pure none := by rw [typeLookup_type, builtinLookup_eq_fast]; kernel_rfl
theorem zip_noHint : typeLookup (.type "zip") "__length_hint__" = pure none := by rw [typeLookup_type, builtinLookup_eq_fast]; kernel_rfl
section
variable {P : Program} {w : World} {A : Around} {E : Value → Shared → Prop} {s : Shared} {z TI TO i1 i2 a b T : Addr} {f : Bool} {oT : Obj} {k : Nat} {xs ys : Array Value} {x y : Value}
theorem zt_next {Q : Value → Shared → Prop} (D : ZipApart z TI TO i1 i2 a b) (hz : IsZipHeld s.heap z TI TO T f) (hT : s.heap.get? T = some oT) (hTI : IsPair s.heap TI (.ref i1) (.ref i2)) (t1 : s.heap.IsTupleIter i1 a k) (t2 : s.heap.IsTupleIter i2 b k) (l1 : s.heap.IsTuple a xs) (l2 : s.heap.IsTuple b ys) (hx : xs[k]? = some x) (hy : ys[k]? = some y)
    (out : ∀ g, IsZipHeld g z TI TO T true → g.IsTupleIter i1 a (k + 1) → g.IsTupleIter i2 b (k + 1) → IsPair g s.heap.objs.size x y → g.objs.size = s.heap.objs.size + 1 → (∀ c o, c ≠ z → c ≠ i1 → c ≠ i2 → s.heap.get? c = some o → g.get? c = some o) → Q (.ref s.heap.objs.size) { s with heap := g }) :
    wpAny (model P w) A (Builtin.«zip.__next__» ⟨[.ref z], []⟩) (fun fin s' => ∃ v, fin = .done (.ret v) ∧ Q v s') E s := by
  show wpAny _ _ (field (.ref z) 2 >>= _) _ _ _; refine wpAny_bind (wpAny_field hz rfl (x := .bool false) rfl ?_)
  show wpAny _ _ (field (.ref z) 3 >>= _) _ _ _; refine wpAny_bind (wpAny_field hz rfl (x := .ref TI) rfl (wpAny_bind (wpAny_seqItems hTI rfl ?_)))
  show wpAny _ _ (Builtin.SmallTypes.ownedTupleIsFree (.ref z) >>= _) _ _ _
  refine wpAny_bind (wpAny_tupleHeld_zip hz hT fun g1 z1 s1 => ?_)
  simp only [Bool.false_eq_true, if_false]; refine wpAny_bind ?_; rw [← Array.forIn_toList]; simp only [List.forIn_cons, List.forIn_nil]
  refine wpAny_bind (wpAny_bind (wpAny_holding ?_)); show wpAny _ _ (Builtin.SmallTypes.nextOf (.ref i1) >>= _) _ _ _
  refine wpAny_bind (RZ.nextOf_tuple_item (s := { s with heap := g1 }) (t1.at fun o e => s1.extBut _ _ D.i1z e) (l1.at fun o e => s1.extBut _ _ D.l1z e) hx fun g2 u1 s2 => wpAny_pure (wpAny_pure ?_))
  refine wpAny_bind (wpAny_bind (wpAny_holding ?_)); show wpAny _ _ (Builtin.SmallTypes.nextOf (.ref i2) >>= _) _ _ _
  refine wpAny_bind (RZ.nextOf_tuple_item (s := { s with heap := g2 }) (t2.at fun o e => s2.extBut _ _ D.i12.symm (s1.extBut _ _ D.i2z e)) (l2.at fun o e => s2.extBut _ _ D.l2i1 (s1.extBut _ _ D.l2z e)) hy fun g3 u2 s3 => wpAny_pure (wpAny_pure (wpAny_pure ?_)))
  show wpAny _ _ (newTuple [x, y] >>= _) _ _ _; refine wpAny_bind (wpAny_newTuple ?_)
  have size3 : g3.objs.size = s.heap.objs.size := by rw [s3.1, s2.1, s1.1]
  have z3 : IsZipHeld g3 z TI TO T true := s3.extBut _ _ D.i2z.symm (s2.extBut _ _ D.i1z.symm z1)
  have keep3 : ∀ c o, c ≠ z → c ≠ i1 → c ≠ i2 → s.heap.get? c = some o → g3.get? c = some o := fun c o n1 n2 n3 e => s3.extBut _ _ n3 (s2.extBut _ _ n2 (s1.extBut _ _ n1 e))
  have u1' : g3.IsTupleIter i1 a (k + 1) := u1.at fun o e => s3.extBut _ _ D.i12 e
  refine wpAny_pure ⟨_, rfl, ?_⟩; show Q (.ref g3.objs.size) _
  have p4 : IsPair (g3.push { cls := .type "tuple", data := .seq #[x, y] }) g3.objs.size x y := Heap.get?_push_size _ rfl
  have size4 : (g3.push { cls := .type "tuple", data := .seq #[x, y] }).objs.size = g3.objs.size + 1 := Heap.size_push ..
  rw [size3] at p4 size4 ⊢
  exact out _ (Heap.get?_push_of_some _ z3) (u1'.at fun o e => Heap.get?_push_of_some _ e) (u2.at fun o e => Heap.get?_push_of_some _ e) p4 size4 fun c o n1 n2 n3 e => Heap.get?_push_of_some _ (keep3 c o n1 n2 n3 e)
theorem zt_stop {Q : Fin → Shared → Prop} (hh : A.handled = none) (D : ZipApart z TI TO i1 i2 a b) (hz : IsZipHeld s.heap z TI TO T f) (hT : s.heap.get? T = some oT) (hTI : IsPair s.heap TI (.ref i1) (.ref i2)) (t1 : s.heap.IsTupleIter i1 a k) (l1 : s.heap.IsTuple a xs) (hx : xs[k]? = none)
    (out : ∀ g e, (∀ c o, c ≠ z → c ≠ i1 → c ≠ i2 → s.heap.get? c = some o → g.get? c = some o) → (∃ o, g.get? e = some o ∧ o.cls = .type "StopIteration") → E (.ref e) { s with heap := g }) :
    wpAny (model P w) A (Builtin.«zip.__next__» ⟨[.ref z], []⟩) Q E s := by
  show wpAny _ _ (field (.ref z) 2 >>= _) _ _ _; refine wpAny_bind (wpAny_field hz rfl (x := .bool false) rfl ?_)
  show wpAny _ _ (field (.ref z) 3 >>= _) _ _ _; refine wpAny_bind (wpAny_field hz rfl (x := .ref TI) rfl (wpAny_bind (wpAny_seqItems hTI rfl ?_)))
  show wpAny _ _ (Builtin.SmallTypes.ownedTupleIsFree (.ref z) >>= _) _ _ _
  refine wpAny_bind (wpAny_tupleHeld_zip hz hT fun g1 z1 s1 => ?_)
  simp only [Bool.false_eq_true, if_false]; refine wpAny_bind ?_; rw [← Array.forIn_toList]; simp only [List.forIn_cons, List.forIn_nil]
  refine wpAny_bind (wpAny_bind (wpAny_holding ?_)); show wpAny _ _ (Builtin.SmallTypes.nextOf (.ref i1) >>= _) _ _ _
  exact wpAny_bind (RZ.nextOf_tuple_end (s := { s with heap := g1 }) hh (t1.at fun o e => s1.extBut _ _ D.i1z e) (l1.at fun o e => s1.extBut _ _ D.l1z e) hx fun g2 e s2 he => out g2 e (fun c o n1 n2 _ q => s2 _ _ n2 (s1.extBut _ _ n1 q)) he)
structure ZT (z TI TO i1 i2 a b S : Addr) (h : Heap) (k : Nat) : Prop where
  st : (∃ x y, IsZip h z TI TO .none ∧ IsPair h TO x y) ∨ ∃ T f oT, IsZipHeld h z TI TO T f ∧ h.get? T = some oT ∧ T ≠ z ∧ T ≠ i1 ∧ T ≠ i2 ∧ T ≠ S
  ti : IsPair h TI (.ref i1) (.ref i2)
  t1 : h.IsTupleIter i1 a k
  t2 : h.IsTupleIter i2 b k
structure ZS (z TI TO i1 i2 a b S : Addr) : Prop where
  ap : ZipApart z TI TO i1 i2 a b
  lt : ∀ c ∈ [z, TI, TO, i1, i2, a, b], c ≠ S
theorem ZT.keep {S : Addr} {h h' : Heap} (Z : ZS z TI TO i1 i2 a b S) (t : ZT z TI TO i1 i2 a b S h k) (kp : ∀ c o, c ≠ S → h.get? c = some o → h'.get? c = some o) : ZT z TI TO i1 i2 a b S h' k := by
  have L := Z.lt
  refine ⟨?_, kp _ _ (L TI (by simp)) t.ti, t.t1.at fun o e => kp _ _ (L i1 (by simp)) e, t.t2.at fun o e => kp _ _ (L i2 (by simp)) e⟩
  rcases t.st with ⟨x, y, q1, q2⟩ | ⟨T, f, oT, q1, q2, n1, n2, n3, n4⟩
  · exact .inl ⟨x, y, kp _ _ (L z (by simp)) q1, kp _ _ (L TO (by simp)) q2⟩
  · exact .inr ⟨T, f, oT, kp _ _ (L z (by simp)) q1, kp _ _ n4 q2, n1, n2, n3, n4⟩
theorem zt_item {S : Addr} {Q : Option Value → Shared → Prop} (Z : ZS z TI TO i1 i2 a b S) (hS : S < s.heap.objs.size) (t : ZT z TI TO i1 i2 a b S s.heap k) (l1 : s.heap.IsTuple a xs) (l2 : s.heap.IsTuple b ys) (hx : xs[k]? = some x) (hy : ys[k]? = some y)
    (out : ∀ g, ZT z TI TO i1 i2 a b S g (k + 1) → IsPair g s.heap.objs.size x y → (∀ c o, c ≠ z → c ≠ TO → c ≠ i1 → c ≠ i2 → s.heap.get? c = some o → g.get? c = some o) → Q (some (.ref s.heap.objs.size)) { s with heap := g }) :
    wpAny (model P w) A (pyNext (.ref z)) Q E s := by
  have zl : ∀ {o : Obj} {c : Addr}, s.heap.get? c = some o → s.heap.objs.size ≠ c := fun e => Nat.ne_of_gt (Heap.lt_size e)
  have n2 : s.heap.objs.size ≠ i1 := by obtain ⟨_, e, _⟩ := t.t1; exact zl e
  have n3 : s.heap.objs.size ≠ i2 := by obtain ⟨_, e, _⟩ := t.t2; exact zl e
  rcases t.st with ⟨x0, y0, q1, q2⟩ | ⟨T, f, oT, q1, q2, m1, m2, m3, m4⟩
  · refine RZ.pyNext_zipT_item Z.ap q1 t.ti q2 t.t1 t.t2 l1 l2 hx hy fun g a1 a2 a3 a4 a5 a6 a7 => out g ⟨.inr ⟨s.heap.objs.size, false, _, a1, a5, zl q1, n2, n3, Nat.ne_of_gt hS⟩, a7 _ _ Z.ap.TIz Z.ap.TITO Z.ap.TIi1 Z.ap.TIi2 t.ti, a3, a4⟩ a5 a7
  · have ty : s.TypeIs (.ref z) "zip" := ⟨_, q1, rfl⟩
    unfold pyNext
    refine wpAny_bind (wpAny_attempt (wpAny_callSpecial?_slot (name := Str.ofString "__next__") ty F.slot_zip_next (wpAny_call_entry F.slot_zip_next ty F.entry_zip_next (zt_next Z.ap q1 q2 t.ti t.t1 t.t2 l1 l2 hx hy fun g a1 a3 a4 a5 a6 a7 => wpAny_pure (out g ?_ a5 fun c o c1 _ c3 c4 e => a7 c o c1 c3 c4 e)) (F.args_zip_next_1 _))))
    exact ⟨.inr ⟨T, true, oT, a1, a7 _ _ m1 m2 m3 q2, m1, m2, m3, m4⟩, a7 _ _ Z.ap.TIz Z.ap.TIi1 Z.ap.TIi2 t.ti, a3, a4⟩
theorem zt_end {S : Addr} {Q : Option Value → Shared → Prop} (hh : A.handled = none) (Z : ZS z TI TO i1 i2 a b S) (t : ZT z TI TO i1 i2 a b S s.heap k) (l1 : s.heap.IsTuple a xs) (l2 : s.heap.IsTuple b ys) (hx : xs[k]? = none)
    (out : ∀ g, (∀ c o, c ≠ z → c ≠ TO → c ≠ i1 → c ≠ i2 → s.heap.get? c = some o → g.get? c = some o) → Q none { s with heap := g }) : wpAny (model P w) A (pyNext (.ref z)) Q E s := by
  rcases t.st with ⟨x0, y0, q1, q2⟩ | ⟨T, f, oT, q1, q2, _⟩
  · exact RZ.pyNext_zipT_end hh Z.ap q1 t.ti q2 t.t1 t.t2 l1 l2 (.inl hx) out
  · have ty : s.TypeIs (.ref z) "zip" := ⟨_, q1, rfl⟩
    unfold pyNext
    refine wpAny_bind (wpAny_attempt (wpAny_callSpecial?_slot (name := Str.ofString "__next__") ty F.slot_zip_next (wpAny_call_entry F.slot_zip_next ty F.entry_zip_next (zt_stop hh Z.ap q1 q2 t.ti t.t1 l1 hx fun g e kp he => ?_) (F.args_zip_next_1 _))))
    obtain ⟨o, ho, hc⟩ := he
    exact wpAny_bind (wpAny_isInstance (T := "StopIteration") (b := true) ⟨o, ho, hc⟩ isSubtype_stop (wpAny_pure (out _ fun c o c1 _ c3 c4 e => kp c o c1 c3 c4 e)))
def ZG (xs ys : Array Value) (h : Heap) (S : Addr) (bad : List Addr) (as : List Addr) : Prop := as.Nodup ∧ ∀ (j : Nat) (c : Addr), as[j]? = some c → S < c ∧ c ∉ bad ∧ ∃ x y, xs[j]? = some x ∧ ys[j]? = some y ∧ IsPair h c x y
end
section
variable {P : Program} {w : World} {A : Around} {s : Shared} {R : Result → Shared → Prop} {z TI TO i1 i2 a b S : Addr} {xs ys : Array Value}
theorem zt_loop (hh : A.handled = none) (Z : ZS z TI TO i1 i2 a b S) (hxy : xs.size = ys.size) (hn : xs.size ≤ sizeLine) (res : Value) {h0 : Heap}
    (out : ∀ h' tk acc c as, (∀ q o, q ≠ S → q ∉ [z, TO, i1, i2] → h0.get? q = some o → h'.get? q = some o) → h'.get? S = some { cls := .type "list", dict := none, data := .seq acc c, slots := #[] } → as.length = xs.size → ZG xs ys h' S [z, TO, i1, i2] as → acc.toList = as.map Value.ref → R (.ok (.ret res)) { s with heap := h', toks := tk }) :
    ∀ (m k : Nat) (h : Heap) (tk c : Nat) (acc : Array Value) (as : List Addr), xs.size - k = m → k ≤ xs.size → ZT z TI TO i1 i2 a b S h k → h.IsTuple a xs → h.IsTuple b ys → (∀ q o, q ≠ S → q ∉ [z, TO, i1, i2] → h0.get? q = some o → h.get? q = some o) →
      h.get? S = some { cls := .type "list", dict := none, data := .seq acc c, slots := #[] } → acc.toList = as.map Value.ref → as.length = k → ZG xs ys h S [z, TO, i1, i2] as → (∀ q ∈ [z, TO, i1, i2], q < h.objs.size) →
      codeAny (model P w) A (.builtin "list.extend.loop" ⟨[.ref S, .ref z, res], []⟩) R { s with heap := h, toks := tk } := by
  have L := Z.lt
  have nz : S ≠ z := (L z (by simp)).symm; have nTO : S ≠ TO := (L TO (by simp)).symm; have n1 : S ≠ i1 := (L i1 (by simp)).symm; have n2 : S ≠ i2 := (L i2 (by simp)).symm
  have aN : a ∉ [z, TO, i1, i2] := by simp only [List.mem_cons, List.not_mem_nil, or_false, not_or]; exact ⟨Z.ap.l1z, Z.ap.l1TO, Z.ap.l1i1, Z.ap.l1i2⟩
  have bN : b ∉ [z, TO, i1, i2] := by simp only [List.mem_cons, List.not_mem_nil, or_false, not_or]; exact ⟨Z.ap.l2z, Z.ap.l2TO, Z.ap.l2i1, Z.ap.l2i2⟩
  intro m
  induction m with
  | zero =>
    intro k h tk c acc as hm hk t l1 l2 kp hS hacc hal hG hlt
    have e : k = xs.size := by omega
    refine codeAny_builtin PySem.F.entry_extend_loop ?_; rw [Around.under_plainId PySem.F.plain_extend_loop _]; show wpAny _ A.in1 (pyNext (.ref z) >>= _) _ _ _
    refine wpAny_bind (zt_end (s := { s with heap := h, toks := tk }) (A := A.in1) hh Z t l1 l2 (by rw [e]; simp) fun g kg => ?_)
    have kg' : ∀ q o, q ∉ [z, TO, i1, i2] → h.get? q = some o → g.get? q = some o := fun q o hq e => by
      simp only [List.mem_cons, List.not_mem_nil, or_false, not_or] at hq
      exact kg q o hq.1 hq.2.1 hq.2.2.1 hq.2.2.2 e
    refine wpAny_pure (out g tk acc c as (fun q o h1 h2 e => kg' q o h2 (kp q o h1 h2 e)) (kg S _ nz nTO n1 n2 hS) (by omega) ⟨hG.1, fun j c hj => ?_⟩ hacc)
    obtain ⟨g1, g2, x, y, g3, g4, g5⟩ := hG.2 j c hj
    exact ⟨g1, g2, x, y, g3, g4, kg' c _ g2 g5⟩
  | succ m ih =>
    intro k h tk c acc as hm hk t l1 l2 kp hS hacc hal hG hlt
    have hkl : k < xs.size := by omega
    obtain ⟨x, hx⟩ : ∃ x, xs[k]? = some x := ⟨xs[k], Array.getElem?_eq_getElem hkl⟩
    obtain ⟨y, hy⟩ : ∃ y, ys[k]? = some y := ⟨ys[k]'(by omega), Array.getElem?_eq_getElem (by omega)⟩
    have accs : acc.size = k := by rw [← Array.length_toList, hacc, List.length_map, hal]
    have Sl : S < h.objs.size := Heap.lt_size hS
    refine codeAny_builtin PySem.F.entry_extend_loop ?_; rw [Around.under_plainId PySem.F.plain_extend_loop _]; show wpAny _ A.in1 (pyNext (.ref z) >>= _) _ _ _
    refine wpAny_bind (zt_item (s := { s with heap := h, toks := tk }) Z Sl t l1 l2 hx hy fun g t' pr kg => ?_)
    dsimp only at pr kg ⊢
    have kg' : ∀ q o, q ∉ [z, TO, i1, i2] → h.get? q = some o → g.get? q = some o := fun q o hq e => by
      simp only [List.mem_cons, List.not_mem_nil, or_false, not_or] at hq
      exact kg q o hq.1 hq.2.1 hq.2.2.1 hq.2.2.2 e
    have hS' := kg S _ nz nTO n1 n2 hS
    have up : ∀ q o, q ≠ S → g.get? q = some o → (g.update S (Obj.mapSeq (·.push (Value.ref h.objs.size)))).get? q = some o := fun q o hq e => (Heap.get?_update_other _ _ (Ne.symm hq)).trans e
    show wpAny _ A.in1 (updateSeq S (·.push (Value.ref h.objs.size)) >>= _) _ _ _
    refine wpAny_bind (wpAny_updateSeq hS' rfl (wpAny_pure ⟨plainId_quiet PySem.F.plain_extend_loop _, ih (k + 1) _ tk _ (acc.push (Value.ref h.objs.size)) (as ++ [h.objs.size]) (by omega) hkl (t'.keep Z up) (l1.at fun o e => up a o (L a (by simp)) (kg' a o aN e)) (l2.at fun o e => up b o (L b (by simp)) (kg' b o bN e))
      (fun q o h1 h2 e => up q o h1 (kg' q o h2 (kp q o h1 h2 e))) (Heap.get?_update_self _ hS' rfl) (by rw [Array.toList_push, hacc, List.map_append]; rfl) (by rw [List.length_append, hal]; rfl) ⟨List.nodup_append.mpr ⟨hG.1, by simp, fun u hu v hv => ?_⟩, fun j c hj => ?_⟩ (fun q hq => ?_)⟩) (by rw [accs]; omega) (by show (acc.push (Value.ref h.objs.size)).size ≤ sizeLine + 1; rw [Array.size_push, accs]; omega))
    · rw [List.mem_singleton.mp hv]
      obtain ⟨j, hj⟩ := List.mem_iff_getElem?.mp hu
      obtain ⟨_, _, _, _, _, _, e⟩ := hG.2 j u hj
      exact Nat.ne_of_lt (Heap.lt_size e)
    · rcases Nat.lt_or_ge j as.length with hj2 | hj2
      · rw [List.getElem?_append_left hj2] at hj
        obtain ⟨g1, g2, x', y', g3, g4, g5⟩ := hG.2 j c hj
        exact ⟨g1, g2, x', y', g3, g4, up c _ (Nat.ne_of_gt g1) (kg' c _ g2 g5)⟩
      · rw [List.getElem?_append_right hj2] at hj
        have hj0 : j - as.length = 0 := by
          rcases Nat.eq_zero_or_pos (j - as.length) with q | q
          · exact q
          · rw [List.getElem?_eq_none (by simp; omega)] at hj; cases hj
        rw [hj0] at hj
        cases hj
        have ej : j = k := by omega
        subst ej
        refine ⟨Sl, fun hq => absurd (hlt _ hq) (Nat.lt_irrefl _), x, y, hx, hy, up _ _ (Nat.ne_of_gt Sl) pr⟩
    · have : q < h.objs.size := hlt q hq
      have h1 : (g.update S (Obj.mapSeq (·.push (Value.ref h.objs.size)))).get? h.objs.size = _ := up _ _ (Nat.ne_of_gt Sl) pr
      exact Nat.lt_trans this (Heap.lt_size h1)
theorem zt_extend (hh : A.handled = none) (Z : ZS z TI TO i1 i2 a b S) (hxy : xs.size = ys.size) (hn : xs.size ≤ sizeLine) (res : Value) (c0 : Nat) (hz : IsZip s.heap z TI TO .none) (t : ZT z TI TO i1 i2 a b S s.heap 0) (l1 : s.heap.IsTuple a xs) (l2 : s.heap.IsTuple b ys) (hS : s.heap.get? S = some { cls := .type "list", data := .seq #[] c0 }) (lt : ∀ q ∈ [z, TO, i1, i2], q < s.heap.objs.size)
    (out : ∀ h' tk acc c as, (∀ q o, q ≠ S → q ∉ [z, TO, i1, i2] → s.heap.get? q = some o → h'.get? q = some o) → h'.get? S = some { cls := .type "list", dict := none, data := .seq acc c, slots := #[] } → as.length = xs.size → ZG xs ys h' S [z, TO, i1, i2] as → acc.toList = as.map Value.ref → R (.ok (.ret res)) { s with heap := h', toks := tk }) :
    wpAny (model P w) A.in1 (Builtin.List.listExtendWith (.ref S) (.ref z) res) (fun fin s' => match fin with | .done f => R (.ok f) s' | .again c' => c'.quiet = true ∧ codeAny (model P w) A c' R s') (fun e s' => R (.error e) s') s := by
  have zS := Z.lt z (by simp)
  have ty : s.TypeIs (.ref z) "zip" := ⟨_, hz, rfl⟩
  unfold Builtin.List.listExtendWith; refine wpAny_bind (wpAny_typeOf ty ?_)
  have k1 : Builtin.List.listSameRef (.ref S) (.ref z) = false := by simp [Builtin.List.listSameRef, Ne.symm zS]
  have k2 : (Value.type "zip" == Value.type "list") = false := by decide
  have k3 : (Value.type "zip" == Value.type "tuple") = false := by decide
  simp only [k1, k2, k3, Bool.or_false, Bool.false_eq_true, if_false]
  refine wpAny_bind (wpAny_pyIter_zip hz (wpAny_bind (wpAny_holding ?_)))
  unfold Builtin.List.listLengthHint; refine wpAny_bind (wpAny_specialOf ty zip_noLen ?_)
  show wpAny _ A.in1 (specialOf (Value.ref z) (Str.ofString "__length_hint__") >>= _) _ _ _; refine wpAny_bind (wpAny_specialOf ty zip_noHint (wpAny_pure ?_))
  show wpAny _ A.in1 (rule "list.extend.makes-room" >>= fun _ => Builtin.List.listTouch (.ref S) >>= fun _ => again (.builtin "list.extend.loop" ⟨[.ref S, .ref z, res], []⟩)) _ _ _
  refine wpAny_bind (wpAny_rule (wpAny_bind ?_)); show wpAny _ A.in1 (updateSeq S (·.push .none) >>= fun _ => updateSeq S (·.pop)) _ _ _
  refine wpAny_bind (wpAny_updateSeq hS rfl ?_)
  have h2 := Heap.get?_update_self (Obj.mapSeq (·.push Value.none)) hS rfl
  refine wpAny_updateSeq (hz := by seq_fits) h2 rfl ?_
  have h3 := Heap.get?_update_self (Obj.mapSeq (·.pop)) h2 rfl
  have oth : ∀ q o, q ≠ S → s.heap.get? q = some o → ((s.heap.update S (Obj.mapSeq (·.push Value.none))).update S (Obj.mapSeq (·.pop))).get? q = some o := fun q o hq e => (Heap.get?_update_other _ _ (Ne.symm hq)).trans ((Heap.get?_update_other _ _ (Ne.symm hq)).trans e)
  refine wpAny_pure ⟨plainId_quiet PySem.F.plain_extend_loop _, zt_loop hh Z hxy hn res (h0 := s.heap) out xs.size 0 _ _ _ #[] [] rfl (Nat.zero_le _) (t.keep Z oth) (l1.at fun o e => oth a o (Z.lt a (by simp)) e) (l2.at fun o e => oth b o (Z.lt b (by simp)) e) (fun q o n1 _ e => oth q o n1 e) h3 rfl rfl ⟨List.nodup_nil, fun j c hj => by simp at hj⟩ (fun q hq => ?_)⟩
  have := lt q hq
  rwa [Heap.size_update, Heap.size_update]
variable {E : Value → Shared → Prop}
theorem zt_call {Q : Value → Shared → Prop} (hh : A.handled = none) (ap : ZipApart z TI TO i1 i2 a b) (hxy : xs.size = ys.size) (hn : xs.size ≤ sizeLine) (hz : IsZip s.heap z TI TO .none) (hTI : IsPair s.heap TI (.ref i1) (.ref i2)) (hTO : IsPair s.heap TO .none .none) (t1 : s.heap.IsTupleIter i1 a 0) (t2 : s.heap.IsTupleIter i2 b 0) (l1 : s.heap.IsTuple a xs) (l2 : s.heap.IsTuple b ys)
    (out : ∀ h' tk acc c as, (∀ q o, q ∉ [z, TO, i1, i2] → s.heap.get? q = some o → h'.get? q = some o) → h'.get? s.heap.objs.size = some { cls := .type "list", dict := none, data := .seq acc c, slots := #[] } → as.length = xs.size → ZG xs ys h' s.heap.objs.size [z, TO, i1, i2] as → acc.toList = as.map Value.ref → Q (.ref s.heap.objs.size) { s with heap := h', toks := tk }) :
    wpAny (model P w) A (call (.type "list") [.ref z]) Q E s := by
  refine callType_codes (Q₁ := fun ob t1 => ob = .ref s.heap.objs.size ∧ t1 = { s with heap := s.heap.push { cls := .type "list", data := .seq #[] } }) PySem.F.called_list (PySem.F.typeCall_list_1 _) PySem.F.entry_list_init (code_list_new _ ⟨rfl, rfl⟩) fun ob s1 e1 => ?_
  obtain ⟨rfl, rfl⟩ := e1
  have hS : (s.heap.push { cls := .type "list", data := .seq #[] }).get? s.heap.objs.size = some { cls := .type "list", data := .seq #[] } := Heap.get?_push_size _ rfl
  have up : ∀ q o, s.heap.get? q = some o → (s.heap.push { cls := .type "list", data := .seq #[] }).get? q = some o := fun q o e => Heap.get?_push_of_some _ e
  have ltz : ∀ {q : Addr} {o : Obj}, s.heap.get? q = some o → q < s.heap.objs.size := fun e => Heap.lt_size e
  have i1l : i1 < s.heap.objs.size := by obtain ⟨_, e, _⟩ := t1; exact ltz e
  have i2l : i2 < s.heap.objs.size := by obtain ⟨_, e, _⟩ := t2; exact ltz e
  have al : a < s.heap.objs.size := by obtain ⟨_, e, _⟩ := l1; exact ltz e
  have bl : b < s.heap.objs.size := by obtain ⟨_, e, _⟩ := l2; exact ltz e
  have Z : ZS z TI TO i1 i2 a b s.heap.objs.size := ⟨ap, fun c hc => by
    simp only [List.mem_cons, List.not_mem_nil, or_false] at hc
    rcases hc with rfl | rfl | rfl | rfl | rfl | rfl | rfl
    · exact Nat.ne_of_lt (ltz hz)
    · exact Nat.ne_of_lt (ltz hTI)
    · exact Nat.ne_of_lt (ltz hTO)
    · exact Nat.ne_of_lt i1l
    · exact Nat.ne_of_lt i2l
    · exact Nat.ne_of_lt al
    · exact Nat.ne_of_lt bl⟩
  have lt0 : ∀ q ∈ [z, TO, i1, i2], q < s.heap.objs.size := fun c hc => by
    simp only [List.mem_cons, List.not_mem_nil, or_false] at hc
    rcases hc with rfl | rfl | rfl | rfl
    · exact ltz hz
    · exact ltz hTO
    · exact i1l
    · exact i2l
  refine ⟨⟨_, hS, rfl⟩, PySem.F.args_list_init_2 _ _, ?_⟩
  show wpAny _ _ (do let old ← Builtin.List.listItems (.ref s.heap.objs.size); Builtin.List.listUpdate (.ref s.heap.objs.size) (fun _ => #[]); letGo old.toList.reverse; Builtin.List.listExtendWith (.ref s.heap.objs.size) (.ref z) .none) _ _ _
  refine wpAny_bind ?_; unfold Builtin.List.listItems; refine wpAny_bind (wpAny_seqItems hS rfl (wpAny_pure ?_))
  show wpAny _ _ (updateSeq s.heap.objs.size (fun _ => #[]) >>= fun _ => letGo (#[] : Array Value).toList.reverse >>= fun _ => Builtin.List.listExtendWith (.ref s.heap.objs.size) (.ref z) .none) _ _ _
  refine wpAny_bind (wpAny_updateSeq hS rfl ?_)
  have h2 := Heap.get?_update_self (Obj.mapSeq (fun _ => (#[] : Array Value))) hS rfl
  have oth : ∀ q o, q ≠ s.heap.objs.size → s.heap.get? q = some o → ((s.heap.push { cls := .type "list", data := .seq #[] }).update s.heap.objs.size (Obj.mapSeq (fun _ => (#[] : Array Value)))).get? q = some o := fun q o hq e => (Heap.get?_update_other _ _ (Ne.symm hq)).trans (up q o e)
  have ot : ∀ {q o}, s.heap.get? q = some o → ((s.heap.push { cls := .type "list", data := .seq #[] }).update s.heap.objs.size (Obj.mapSeq (fun _ => (#[] : Array Value)))).get? q = some o := fun e => oth _ _ (Nat.ne_of_lt (ltz e)) e
  refine wpAny_bind (wpAny_letGo ?_)
  refine zt_extend (A := A.in1) hh Z hxy hn .none _ (ot hz) ⟨.inl ⟨_, _, ot hz, ot hTO⟩, ot hTI, t1.at fun o e => ot e, t2.at fun o e => ot e⟩ (l1.at fun o e => ot e) (l2.at fun o e => ot e) h2 (fun q hq => ?_) fun h' tk acc c as kp g1 g2 g3 g4 => ?_
  · have := lt0 q hq
    rw [Heap.size_update, Heap.size_push]; exact Nat.lt_succ_of_lt this
  · exact ⟨rfl, out h' tk acc c as (fun q o hq e => kp q o (Nat.ne_of_lt (ltz e)) hq (ot e)) g1 g2 g3 g4⟩
end
def updL (H : Hp) : List (Addr × HO) → Hp
  | [] => H
  | p :: r => upd (updL H r) p.1 p.2
theorem updL_not {H : Hp} {b : Addr} : ∀ {L : List (Addr × HO)}, b ∉ L.map (·.1) → updL H L b = H b
  | [], _ => rfl
  | p :: r, h => by
    rw [List.map_cons, List.mem_cons, not_or] at h
    show upd (updL H r) p.1 p.2 b = _
    rw [upd_ne h.1, updL_not h.2]
theorem updL_mem {H : Hp} {b : Addr} {o : HO} : ∀ {L : List (Addr × HO)}, (L.map (·.1)).Nodup → (b, o) ∈ L → updL H L b = some o
  | p :: r, nd, h => by
    have nd := List.nodup_cons.mp (show (p.1 :: r.map (·.1)).Nodup from nd)
    show upd (updL H r) p.1 p.2 b = _
    rcases List.mem_cons.mp h with e | h
    · rw [← e]; exact upd_same
    · rw [upd_ne (fun e => nd.1 (by rw [← e]; exact List.mem_map.mpr ⟨_, h, rfl⟩)), updL_mem nd.2 h]
theorem updL_keep {H : Hp} {L : List (Addr × HO)} (new : ∀ p ∈ L, H p.1 = none) {b : Addr} {o : HO} (e : H b = some o) : updL H L b = some o := by
  rw [updL_not fun hb => ?_, e]
  obtain ⟨p, hp, rfl⟩ := List.mem_map.mp hb
  rw [new p hp] at e; cases e
theorem inv_many {X : Cx} {pins : List (Addr × Obj)} {σ : L2.St} {H : Hp} {s : Shared} {h' : Heap} {t' : Nat} {L : List (Addr × HO)} (I : Inv X pins σ H s) (k : ∀ b u, s.heap.get? b = some u → h'.get? b = some u) (hp : ∀ p ∈ L, s.heap.objs.size ≤ p.1) (nd : (L.map (·.1)).Nodup)
    (new : ∀ p ∈ L, ObjOk X.prog X.w (updL H L) h' p.1 p.2) : Inv X pins σ (updL H L) { s with heap := h', toks := t' } := by
  have hn : ∀ p ∈ L, H p.1 = none := fun p q => I.hok.fresh (hp p q)
  have old : ∀ b u, s.heap.get? b = some u → b ∉ L.map (·.1) := fun b u e hb => by
    obtain ⟨p, q, rfl⟩ := List.mem_map.mp hb
    exact absurd (Nat.lt_of_lt_of_le (Heap.lt_size e) (hp p q)) (Nat.lt_irrefl _)
  refine I.un ⟨fun b u q _ _ _ => k b u q, fun b u q _ _ _ => ⟨u.slots, k b u q⟩, fun b u q n _ => by rw [updL_not (old b u q)]; exact n, fun b u q _ => ⟨u, k b u q⟩, fun b xs q => updL_keep hn q, fun b u xs q => updL_keep hn q, fun b ps q => ⟨#[], by rw [updL_keep hn q]; simp⟩⟩ fun b u e => ?_
  by_cases hb : b ∈ L.map (·.1)
  · obtain ⟨p, q, rfl⟩ := List.mem_map.mp hb
    rw [updL_mem nd q] at e
    cases e
    exact new p q
  · rw [updL_not hb] at e
    exact (I.hok b u e).stay (fun c v _ q => k c v q) (fun c q => updL_keep hn q) fun c xs q => updL_keep hn q
theorem Ok.many {G : Gm} {M : Mem} : ∀ {L : List (Addr × HO)} {H H1 : Hp}, (L.map (·.1)).Nodup → (∀ p ∈ L, H1 p.1 = none) → CR.Ok G H H1 M → Tr G ⟨H, H1, M⟩ (updL H L) (updL H1 L) M
  | [], H, H1, _, _, k => Tr.refl k
  | p :: r, H, H1, nd, hn, k => by
    have nd := List.nodup_cons.mp (show (p.1 :: r.map (·.1)).Nodup from nd)
    have t := Ok.many (L := r) nd.2 (fun q hq => hn q (List.mem_cons_of_mem _ hq)) k
    exact t.trans (t.ok.new (by rw [updL_not nd.1]; exact hn p List.mem_cons_self))
def prs : List Addr → List V → List V → List (Addr × HO)
  | c :: as, x :: xs, y :: ys => (c, .tup [x, y]) :: prs as xs ys
  | _, _, _ => []
theorem prs_keys : ∀ {as : List Addr} {xs ys : List V}, as.length = xs.length → xs.length = ys.length → (prs as xs ys).map (·.1) = as
  | [], [], [], _, _ => rfl
  | c :: as, x :: xs, y :: ys, h1, h2 => by
    show c :: (prs as xs ys).map (·.1) = _
    rw [prs_keys (by simpa using h1) (by simpa using h2)]
  | [], _ :: _, _, h, _ => by simp at h
  | _ :: _, [], _, h, _ => by simp at h
  | _ :: _, _ :: _, [], _, h => by simp at h
  | [], [], _ :: _, _, h => by simp at h
theorem prs_mem : ∀ {as : List Addr} {xs ys : List V} {p : Addr × HO}, p ∈ prs as xs ys → ∃ (j : Nat) (x y : V), as[j]? = some p.1 ∧ xs[j]? = some x ∧ ys[j]? = some y ∧ p.2 = .tup [x, y]
  | c :: as, x :: xs, y :: ys, p, h => by
    rcases List.mem_cons.mp h with rfl | h
    · exact ⟨0, x, y, rfl, rfl, rfl, rfl⟩
    · obtain ⟨j, x', y', h1, h2, h3, h4⟩ := prs_mem h
      exact ⟨j + 1, x', y', by simpa using h1, by simpa using h2, by simpa using h3, h4⟩
  | [], _, _, _, h => by cases h
  | _ :: _, [], _, _, h => by cases h
  | _ :: _, _ :: _, [], _, h => by cases h
def tLZ (K : PySem.W.Frag) (ta : TA) : TE := fun σ H Q => ta σ H fun vs H1 => ∃ a b xs ys, vs = [.ref a, .ref b] ∧ SqT K H1 a xs ∧ SqT K H1 b ys ∧ xs.length = ys.length ∧ xs.length ≤ 1000 ∧ ∀ (l : Addr) (as : List Addr), as.length = xs.length → (l :: as).Nodup → (∀ c ∈ l :: as, H1 c = none) → Q (.ref l) (updL H1 ((l, .lst (as.map V.ref)) :: prs as xs ys))
theorem refs_vals : ∀ as : List Addr, Vals (as.map V.ref) (as.map Value.ref)
  | [] => .nil
  | a :: as => .cons rfl (refs_vals as)
theorem pe_listZip {X : Cx} {e1 e2 : Expr} {ta : TA} {p p2 q pos : Pos} (hc : X.calm = true) (hg : Gl X "list") (hm : X.mg "list" = none) (hg2 : Gl X "zip") (hm2 : X.mg "zip" = none) (ha : PA X [e1, e2] ta)
    (hs : starEach [e1, e2] X.env = (false, eval e1 X.env) :: starEach [e2] X.env) (hpl : (backTo q (starEach [e2] X.env)).any (·.1) = false) : PE X (.Call (.Name "list" p) [.Call (.Name "zip" p2) [e1, e2] [] q] [] pos) (tLZ X.K ta) := by
  refine ⟨fun pins s σ H Q I h => ?_⟩
  refine Call_ (ld_blt I hg hm (show bootBuiltins ("list" : Str) = some (.type "list") by decide +kernel) (PyProof.Rows.callWith_type1 (PyProof.Rows.args_cons ?_ rfl) rfl rfl))
  refine Call_ (ld_blt I hg2 hm2 PyProof.Rows.boot_zip (PyProof.Rows.callWith_type1 (thn (ha.run q pins s σ H _ I h) fun us s1 ⟨vs, H1, I1, r1, q1⟩ => ?_) hs hpl))
  obtain ⟨a, b, xs, ys, rfl, hqx, hqy, hxy, hl, fin⟩ := q1
  cases r1 with
  | cons r rr =>
    cases rr with
    | cons r' rr =>
      cases rr
      cases r
      cases r'
      obtain ⟨u1, rv, p1, _⟩ := I1.tuple hqx
      obtain ⟨u2, rv2, p2, _⟩ := I1.tuple hqy
      have n1 := rv.length; have n2 := rv2.length
      have al : a < s1.heap.objs.size := by obtain ⟨_, e, _⟩ := id p1; exact Heap.lt_size e
      have bl : b < s1.heap.objs.size := by obtain ⟨_, e, _⟩ := id p2; exact Heap.lt_size e
      refine RZ.call_zipT (show s1.heap.IsTuple a u1.toArray from p1) (show s1.heap.IsTuple b u2.toArray from p2) fun g z1 z2 z3 z4 z5 z6 kg => PyProof.Rows.args_nil ?_
      refine zt_call (s := { s1 with heap := g }) (I1.ok.hd hc) (PySem.W.ktu_apart s1.heap.objs.size a b al bl) (by simp; omega) (by rw [List.size_toArray, sizeLine_eq]; omega) z1 z2 z3 z4 z5 ((show s1.heap.IsTuple a u1.toArray from p1).at fun o e => kg _ _ e) ((show s1.heap.IsTuple b u2.toArray from p2).at fun o e => kg _ _ e) fun h' tk acc cc as kp gS gl gG gacc => ?_
      have kall : ∀ q o, s1.heap.get? q = some o → h'.get? q = some o := fun q o e => kp q o (by
        have := Heap.lt_size e
        simp only [List.mem_cons, List.not_mem_nil, or_false, not_or]
        exact ⟨Nat.ne_of_lt (Nat.lt_of_lt_of_le this (Nat.le_add_right _ _)), Nat.ne_of_lt (Nat.lt_of_lt_of_le this (Nat.le_add_right _ _)), Nat.ne_of_lt this, Nat.ne_of_lt (Nat.lt_of_lt_of_le this (Nat.le_add_right _ _))⟩) (kg q o e)
      have hal : as.length = xs.length := by rw [gl, List.size_toArray]; omega
      have hkeys : ((g.objs.size, HO.lst (as.map V.ref)) :: prs as xs ys).map (·.1) = g.objs.size :: as := by rw [List.map_cons, prs_keys hal hxy]
      have hlo : ∀ c ∈ as, g.objs.size < c := fun c hc => by
        obtain ⟨j, hj⟩ := List.mem_iff_getElem?.mp hc
        exact (gG.2 j c hj).1
      have hnd : (g.objs.size :: as).Nodup := List.nodup_cons.mpr ⟨fun hc => Nat.lt_irrefl _ (hlo _ hc), gG.1⟩
      have hge : ∀ c ∈ g.objs.size :: as, s1.heap.objs.size ≤ c := fun c hc => by
        rcases List.mem_cons.mp hc with rfl | hc
        · rw [z6]; exact Nat.le_add_right _ _
        · have := hlo c hc
          rw [z6] at this
          exact Nat.le_trans (Nat.le_add_right _ 5) (Nat.le_of_lt this)
      have hfresh : ∀ c ∈ g.objs.size :: as, H1 c = none := fun c hc => I1.hok.fresh (hge c hc)
      have I2 : Inv X pins σ (updL H1 ((g.objs.size, .lst (as.map V.ref)) :: prs as xs ys)) { s1 with heap := h', toks := tk } := by
        refine inv_many I1 kall (fun p hp => hge p.1 (by rw [← hkeys]; exact List.mem_map.mpr ⟨p, hp, rfl⟩)) (by rw [hkeys]; exact hnd) fun p hp => ?_
        rcases List.mem_cons.mp hp with rfl | hp
        · refine ⟨by rw [List.length_map, hal, sizeLine_eq]; omega, acc.toList, cc, by rw [gacc]; exact refs_vals as, ?_⟩
          show h'.get? g.objs.size = _
          rw [gS]
        · obtain ⟨j, x, y, k1, k2, k3, k4⟩ := prs_mem hp
          obtain ⟨_, _, x', y', m1, m2, m3⟩ := gG.2 j p.1 k1
          obtain ⟨ux, hux, rx⟩ := rv.get k2
          obtain ⟨uy, huy, ry⟩ := rv2.get k3
          have e1 : x' = ux := by
            have : u1[j]? = some x' := by simpa using m1
            rw [hux] at this; exact (Option.some.inj this).symm
          have e2 : y' = uy := by
            have : u2[j]? = some y' := by simpa using m2
            rw [huy] at this; exact (Option.some.inj this).symm
          subst e1 e2
          rw [k4]
          exact ⟨by show 2 ≤ sizeLine; decide, [x', y'], .cons rx (.cons ry .nil), ⟨_, m3, rfl, _, rfl⟩⟩
      exact ⟨.ref g.objs.size, _, I2, rfl, fin _ as hal hnd hfresh⟩
section
variable {c : Cd} {N : List Str} {sc : Scope} {k : Nat} {Γ : Gx} {M : Mem} {P : D → Mem → Prop} {a b : Expr} {p p2 q pos : Pos}
theorem dq_pairs {K : PySem.W.Frag} {H : Hp} : ∀ {as : List Addr} {vs us : List V} {xs ys : List PyData}, as.length = vs.length → (∀ p ∈ prs as vs us, H p.1 = some p.2) → DqAll K H vs xs → DqAll K H us ys → xs.length = ys.length → DqAll K H (as.map V.ref) ((xs.zip ys).map fun p => .tuple [p.1, p.2])
  | [], _, _, _, _, h, _, d1, _, _ => by
    cases d1 with
    | nil => exact .nil
    | cons => simp at h
  | c :: as, _, _, _, _, h, hp, d1, d2, hl => by
    cases d1 with
    | nil => simp at h
    | cons i1 r1 =>
      cases d2 with
      | nil => simp at hl
      | cons i2 r2 =>
        exact .cons (.tup (SqT.of (hp _ List.mem_cons_self)) (.cons i1 (.cons i2 .nil))) (dq_pairs (by simpa using h) (fun p q => hp p (List.mem_cons_of_mem _ q)) r1 r2 (by simpa using hl))
theorem e_listZip (o : c.Ok N sc k) (hm : c.m.mg "list" = none) (hm2 : c.m.mg "zip" = none) (hg : sc.names.lookup ("list" : Str) = some .globalImplicit) (hg2 : sc.names.lookup ("zip" : Str) = some .globalImplicit)
    (hs : starEach [a, b] c.X.env = (false, eval a c.X.env) :: starEach [b] c.X.env) (hpl : (backTo q (starEach [b] c.X.env)).any (·.1) = false)
    (h : Ea c Γ M [a, b] fun ds M1 => ∃ xs ys : List PyData, ds = [dT xs, dT ys] ∧ xs.length = ys.length ∧ xs.length ≤ 1000 ∧ P (dL ((xs.zip ys).map fun p => .tuple [p.1, p.2])) M1) :
    Ee c Γ M (.Call (.Name "list" p) [.Call (.Name "zip" p2) [a, b] [] q] [] pos) P :=
  e_of (pe_listZip o.calm (gl_of o hg) (by rw [o.mg]; exact hm) (gl_of o hg2) (by rw [o.mg]; exact hm2) pa_sem hs hpl) fun σ H H1 Q tr sl qq => h σ H H1 _ tr sl fun ds M1 vs H' H2 p1 t1 e1 i1 => by
    obtain ⟨xs, ys, rfl, hl, hl2, p1⟩ := p1
    obtain ⟨v, u, rfl, iv, iu⟩ := is2 i1
    obtain ⟨a1, vs, rfl, hv, dv⟩ := rd_t t1 iv (.p _)
    obtain ⟨a2, us, rfl, hu, du⟩ := rd_t t1 iu (.p _)
    have hvl := dpa_len dv
    have hul := dpa_len du
    refine ⟨a1, a2, vs, us, rfl, by rw [o.K]; exact hv, by rw [o.K]; exact hu, by omega, by omega, fun l as hal hnd hfr => ?_⟩
    have hkeys : ((l, HO.lst (as.map V.ref)) :: prs as vs us).map (·.1) = l :: as := by rw [List.map_cons, prs_keys hal (by omega)]
    have t2 := Ok.many (L := (l, .lst (as.map V.ref)) :: prs as vs us) (by rw [hkeys]; exact hnd) (fun p hp => hfr p.1 (by rw [← hkeys]; exact List.mem_map.mpr ⟨p, hp, rfl⟩)) t1.ok
    refine qq _ M1 _ _ _ p1 (t1.trans t2) (e1.trans t2.ex) ?_
    have hmem : ∀ p ∈ (l, HO.lst (as.map V.ref)) :: prs as vs us, updL H' ((l, HO.lst (as.map V.ref)) :: prs as vs us) p.1 = some p.2 := fun p hp => updL_mem (by rw [hkeys]; exact hnd) hp
    exact Dq.lst (hmem _ List.mem_cons_self) (dq_pairs hal (fun p hp => hmem p (List.mem_cons_of_mem _ hp)) (dpa_mono t2.ex _ _ dv) (dpa_mono t2.ex _ _ du) hl)
end
end

section
open PySem PySem.Spec PyProof.Rows L2
open Evl (Ex)
def perN (s1 s2 : List (List Int)) : Nat := if wideOf s1 = wideOf s2 then wideOf s1 else 1
def remN (s1 s2 : List (List Int)) : List Nat := if wideOf s1 = wideOf s2 then (List.range (wideOf s1)).filter fun r => decide (orderN s1 r = orderN s2 r) else []
def bndN (s1 s2 : List (List Int)) : Nat := if wideOf s1 = wideOf s2 then 2 * wideOf s1 else Nat.lcm (wideOf s1) (wideOf s2) + 1
def misN (s1 s2 : List (List Int)) (n : Nat) : Bool := decide (sameAt s1 s2 n) != decide (n % perN s1 s2 ∈ remN s1 s2)
def startOf (mis : Nat → Bool) : Nat → Nat
  | 0 => 0
  | b + 1 => if mis b = true then b + 1 else startOf mis b
theorem startOf_le {mis : Nat → Bool} : ∀ b, startOf mis b ≤ b
  | 0 => Nat.le_refl _
  | b + 1 => by
    unfold startOf; split
    · exact Nat.le_refl _
    · exact Nat.le_succ_of_le (startOf_le b)
theorem startOf_more {mis : Nat → Bool} {b : Nat} : ∀ d, (∀ n, b ≤ n → n < b + d → mis n = false) → startOf mis (b + d) = startOf mis b
  | 0, _ => rfl
  | d + 1, h => by
    rw [show startOf mis (b + (d + 1)) = if mis (b + d) = true then b + d + 1 else startOf mis (b + d) from rfl, if_neg (by rw [h (b + d) (by omega) (by omega)]; decide)]
    exact startOf_more d fun n h1 h2 => h n h1 (by omega)
theorem startOf_congr {m1 m2 : Nat → Bool} : ∀ b, (∀ n, n < b → m1 n = m2 n) → startOf m1 b = startOf m2 b
  | 0, _ => rfl
  | b + 1, h => by
    rw [show startOf m1 (b + 1) = if m1 b = true then b + 1 else startOf m1 b from rfl, show startOf m2 (b + 1) = if m2 b = true then b + 1 else startOf m2 b from rfl, h b (by omega), startOf_congr b fun n hn => h n (by omega)]
def startN (s1 s2 : List (List Int)) : Nat := startOf (misN s1 s2) (bndN s1 s2)
def earlyN (s1 s2 : List (List Int)) : List Nat := (List.range (startN s1 s2)).filter fun n => decide (sameAt s1 s2 n)
theorem plc_far {s : List Int} (h : OrdOk s) {n : Nat} : ∀ k, k * s.length < n → (plcBy s n (k * s.length) : Int) - plcBy s n 0 = k ∨ (plcBy s n (k * s.length) : Int) - plcBy s n 0 = -k := by
  obtain ⟨x, r, hx⟩ := filter_ord h (a := 0) h.1
  intro k
  have key : ∀ k, k * s.length < n → (0 < x → plcBy s n (k * s.length) = plcBy s n 0 + k) ∧ (¬ 0 < x → plcBy s n (k * s.length) + k = plcBy s n 0) := by
    intro k
    induction k with
    | zero => intro _; rw [Nat.zero_mul]; exact ⟨fun _ => rfl, fun _ => rfl⟩
    | succ k ih =>
      intro hk
      rw [Nat.succ_mul] at hk ⊢
      have ih := ih (by omega)
      have hn := plcBy_next h (n := n) (m := k * s.length) hk (x := x) (r := r) (by rw [Nat.mul_mod_left]; exact hx)
      exact ⟨fun hp => by rw [hn.1 hp, ih.1 hp]; omega, fun hp => by have := hn.2 hp; have := ih.2 hp; omega⟩
  intro hk
  have := key k hk
  by_cases hp : 0 < x
  · left; have := this.1 hp; omega
  · right; have := this.2 hp; omega
theorem unlike_far {s1 s2 : List (List Int)} (h1 : ∀ s ∈ s1, OrdOk s) (h2 : ∀ s ∈ s2, OrdOk s) (hne : wideOf s1 ≠ wideOf s2) {n : Nat} (hn : Nat.lcm (wideOf s1) (wideOf s2) < n) : ¬ sameAt s1 s2 n := by
  intro e
  have hw1 := wideOf_pos h1
  have hw2 := wideOf_pos h2
  have o1 := orderN_ok h1 (n % wideOf s1)
  have o2 := orderN_ok h2 (n % wideOf s2)
  have l1 := orderN_len h1 (n % wideOf s1)
  have l2 := orderN_len h2 (n % wideOf s2)
  have heq : ∀ m, m < n → plcS s1 n m = plcS s2 n m := fun m hm => by
    have g1 := plcS_get h1 hm
    have g2 := plcS_get h2 hm
    rw [show doneIt s1 (List.range n) = doneIt s2 (List.range n) from e] at g1
    exact nodup_idx (nodup_doneR h2 n) g1 g2
  have heq2 : ∀ m, m < n → plcBy (orderN s1 (n % wideOf s1)) n m = plcBy (orderN s2 (n % wideOf s2)) n m := fun m hm => by
    rw [← plcS_order h1 hm, ← plcS_order h2 hm]; exact heq m hm
  obtain ⟨a, ha⟩ := Nat.dvd_lcm_left (wideOf s1) (wideOf s2)
  obtain ⟨b, hb⟩ := Nat.dvd_lcm_right (wideOf s1) (wideOf s2)
  have f1 := plc_far o1 (n := n) a (by rw [l1, Nat.mul_comm, ← ha]; exact hn)
  have f2 := plc_far o2 (n := n) b (by rw [l2, Nat.mul_comm, ← hb]; exact hn)
  rw [l1, Nat.mul_comm, ← ha, heq2 _ hn, heq2 0 (by omega)] at f1
  rw [l2, Nat.mul_comm, ← hb] at f2
  have hab : a = b := by omega
  subst hab
  have ha0 : 0 < a := by
    rcases Nat.eq_zero_or_pos a with z | z
    · rw [z, Nat.mul_zero] at ha
      exact absurd ha (Nat.ne_of_gt (Nat.lcm_pos hw1 hw2))
    · exact z
  exact hne (Nat.eq_of_mul_eq_mul_right ha0 (ha.symm.trans hb))
theorem same_far {s1 s2 : List (List Int)} (h1 : ∀ s ∈ s1, OrdOk s) (h2 : ∀ s ∈ s2, OrdOk s) (he : wideOf s1 = wideOf s2) {n : Nat} (hn : 2 * wideOf s1 ≤ n) : sameAt s1 s2 n ↔ orderN s1 (n % wideOf s1) = orderN s2 (n % wideOf s1) := by
  constructor
  · intro e
    have := (wide_of_same h1 h2 hn (by omega) e).2
    rwa [← he] at this
  · intro e
    show doneIt s1 (List.range n) = doneIt s2 (List.range n)
    rw [← orderN_reads h1 n, ← orderN_reads h2 n, ← he, e]
theorem mis_far {s1 s2 : List (List Int)} (h1 : ∀ s ∈ s1, OrdOk s) (h2 : ∀ s ∈ s2, OrdOk s) {n : Nat} (hn : bndN s1 s2 ≤ n) : misN s1 s2 n = false := by
  unfold bndN at hn
  by_cases he : wideOf s1 = wideOf s2
  · rw [if_pos he] at hn
    have hw := wideOf_pos h1
    unfold misN perN remN
    rw [if_pos he, if_pos he]
    have := same_far h1 h2 he hn
    have hm : n % wideOf s1 ∈ ((List.range (wideOf s1)).filter fun r => decide (orderN s1 r = orderN s2 r)) ↔ sameAt s1 s2 n := by
      rw [this, List.mem_filter, List.mem_range, decide_eq_true_eq]
      exact ⟨fun e => e.2, fun e => ⟨Nat.mod_lt _ hw, e⟩⟩
    by_cases hS : sameAt s1 s2 n
    · rw [decide_eq_true hS, decide_eq_true (hm.mpr hS)]; rfl
    · rw [decide_eq_false hS, decide_eq_false (fun z => hS (hm.mp z))]; rfl
  · rw [if_neg he] at hn
    have := unlike_far h1 h2 he hn
    unfold misN perN remN
    rw [if_neg he, if_neg he, decide_eq_false this]
    simp
theorem lcm_few {a b : Nat} (ha : 0 < a) (hb : 0 < b) (h1 : a ≤ 27) (h2 : b ≤ 27) : Nat.lcm a b ≤ a * b ∧ Nat.lcm a b ≤ 729 := by
  have h3 : Nat.lcm a b ≤ a * b := by
    unfold Nat.lcm
    exact Nat.div_le_self _ _
  exact ⟨h3, Nat.le_trans h3 (Nat.mul_le_mul h1 h2)⟩
theorem bnd_few {s1 s2 : List (List Int)} (h1 : StepsOk s1) (h2 : StepsOk s2) : bndN s1 s2 ≤ 730 := by
  have a1 := wide_le h1
  have a2 := wide_le h2
  unfold bndN
  split
  · omega
  · have := (lcm_few (by omega) (by omega) a1.2 a2.2).2
    omega
end

section
open PySem PySem.Spec PyProof.Rows L2
open Evl (Ex)
def phCommon : Phi := fun ds M P _ => ∃ a b : Nat, ds = [dI a, dI b] ∧ 0 < a ∧ 0 < b ∧ a ≤ 1000 ∧ b ≤ 1000 ∧ P (dI (Nat.lcm a b)) M
theorem ok_common {m : Md} {f : Addr} {fd : FuncData} {k : Nat} (F : Fun m.K "common" "common" S_common f fd) :
    FnOk m.P m.w m.K m.mg m.base CX0 (k + 1) f fd A_common (spOf m.G phCommon) := by
  refine fn_ok F sc_common (fun ds M P R h => by obtain ⟨a, b, rfl, _⟩ := h; rfl) (fun c ds M P R hc o hl h => ?_)
  subst hc
  obtain ⟨a, b, rfl, ha, hb, ha2, hb2, p⟩ := h
  show Eb c [some (dI a), some (dI b), none, none] M _ _
  refine b_cons' (by rfl) ?_
  repeat walk_at "x"
  refine ⟨_, _, rfl, ?_⟩
  show Eb c [some (dI a), some (dI b), some (dI a), some (dI b)] M _ _
  refine b_cons ?_
  refine s_while o (fun m Γ' M' => ∃ x y : Nat, m = y ∧ Nat.gcd x y = Nat.gcd a b ∧ Γ' = [some (dI a), some (dI b), some (dI x), some (dI y)] ∧ M' = M) ⟨b, a, b, rfl, rfl, rfl, rfl⟩ ?_
  rintro m Γ' M' ⟨x, y, rfl, hg, rfl, rfl⟩
  repeat walk_at "x"
  refine ⟨fun h => ?_, fun h => ?_⟩
  · have h : 0 < m := by have := of_decide_eq_true h; omega
    repeat walk_at "x"
    refine o_mod (by omega) ?_
    rw [← Int.natCast_emod]
    repeat walk_at "x"
    refine ⟨_, _, rfl, ?_⟩
    repeat walk_at "x"
    exact ⟨x % m, Nat.mod_lt x h, m, x % m, rfl, by rw [← hg, Nat.gcd_comm x m, Nat.gcd_rec m x, Nat.gcd_comm], rfl, rfl⟩
  · have h : m = 0 := by have := of_decide_eq_false h; omega
    subst h
    rw [Nat.gcd_zero_right] at hg
    subst hg
    have hg0 := Nat.gcd_pos_of_pos_left b ha
    have hgl := Nat.le_of_dvd ha (Nat.gcd_dvd_left a b)
    repeat walk_at "x"
    refine o_fdiv (cdivw (by omega) (by have : (1000 : Int) < 10 ^ 40 := by decide
                                        omega)) ?_
    repeat walk_at "x"
    refine om_int (.inr ⟨by omega, by omega⟩) ?_
    rw [show (a : Int) / (Nat.gcd a b : Int) * (b : Int) = ((Nat.lcm a b : Nat) : Int) by
      rw [← Int.natCast_ediv, ← Int.natCast_mul, Nat.lcm, Nat.div_mul_right_comm (Nat.gcd_dvd_left a b)]]
    exact p
end

section
open PySem PySem.Spec PyProof.Rows L2
open Evl (Ex)
local macro_rules | `(tactic| walk_at "x") => `(tactic| ((with_reducible show Ee _ _ _ (.Call (.Name "list" _) [.Call (.Name "zip" _) _ _ _] _ _) _); (with_reducible refine' e_listZip (by assumption) ?m ?n ?g ?h ?s ?t ?_); (case m => assumption); (case n => assumption); (case g => rfl); (case h => rfl); (case s => rfl); (case t => rfl)))
section
variable {c : Cd} {N : List Str} {sc : Scope} {k : Nat} {Γ : Gx} {M : Mem} {nx_ : Gx → Mem → Prop} {rt_ : D → Mem → Prop} {bk_ ct_ : Gx → Mem → Prop}
theorem s_setC {e : Expr} {x : Str} {i : Nat} {pos' pos : Pos} [hi : At N x i] (o : c.Ok N sc k) (hc : sc.names.lookup x = some .cell) (hv : c.lvl = true) (h : Ee c Γ M e fun d M1 => nx_ (Γ.set i (some d)) M1) : Es c Γ M (.Assign [.Name x pos'] e pos) ⟨nx_, rt_, bk_, ct_⟩ := by
  have hk : c.X.env.kindOf x = some .cell := by
    show c.X.env.scope.names.lookup x = _
    rw [o.esc]; exact hc
  refine s_set o (.inr hc) (.inr hv) ?_ h
  unfold swapsWith
  split
  · dsimp only
    rw [hk]
    show (pure (_ && false && _ && _) : Sem Bool) = _
    rw [Bool.and_false, Bool.false_and, Bool.false_and]
  · rfl
end
def prsL (s1 s2 : List (List Int)) : List PyData := if wideOf s1 = wideOf s2 then (((ordsN s1).map sD).zip ((ordsN s2).map sD)).map fun p => .tuple [p.1, p.2] else []
theorem prsL_len {s1 s2 : List (List Int)} : (prsL s1 s2).length = if wideOf s1 = wideOf s2 then wideOf s1 else 0 := by
  unfold prsL
  split
  · rename_i e
    rw [List.length_map, List.length_zip, List.length_map, List.length_map, ordsN_len, ordsN_len, ← e, Nat.min_self]
  · rfl
theorem prsL_get {s1 s2 : List (List Int)} {i : Nat} (hi : i < (prsL s1 s2).length) : (prsL s1 s2).getD i .none = .tuple [sD (orderN s1 i), sD (orderN s2 i)] := by
  have hl := hi
  rw [prsL_len] at hl
  by_cases e : wideOf s1 = wideOf s2
  · rw [if_pos e] at hl
    have h1 : ((ordsN s1).map sD)[i]? = some (sD (orderN s1 i)) := by rw [List.getElem?_map, ordsN_get hl]; rfl
    have h2 : ((ordsN s2).map sD)[i]? = some (sD (orderN s2 i)) := by rw [List.getElem?_map, ordsN_get (by omega)]; rfl
    have h3 : (prsL s1 s2)[i]? = some (.tuple [sD (orderN s1 i), sD (orderN s2 i)]) := by
      unfold prsL
      rw [if_pos e, List.getElem?_map, (List.getElem?_zip_eq_some (z := (sD (orderN s1 i), sD (orderN s2 i)))).mpr ⟨h1, h2⟩]; rfl
    rw [List.getD_eq_getElem?_getD, h3]; rfl
  · rw [if_neg e] at hl; omega
theorem rem_prs {s1 s2 : List (List Int)} : (List.range (prsL s1 s2).length).filter (fun r => decide (orderN s1 r = orderN s2 r)) = remN s1 s2 := by
  rw [prsL_len]
  unfold remN
  split <;> rfl
def agrD (s1 s2 : List (List Int)) : PyData := .tuple [natI (startN s1 s2), natI (perN s1 s2), .tuple ((remN s1 s2).map natI), .tuple ((earlyN s1 s2).map natI)]
def phAgree : Phi := fun ds M P _ => ∃ s1 s2 : List (List Int), ds = [.scr (ssD s1), .scr (ssD s2)] ∧ StepsOk s1 ∧ StepsOk s2 ∧ P (.p (agrD s1 s2)) M
theorem ok_agreeing {m : Md} {f : Addr} {fd : FuncData} {k : Nat} (F : Fun m.K "agreeing" "agreeing" S_agreeing f fd) (F1 : Fd m CX0 k "orders_of" phOrds) (F2 : Fd m CX0 k "common" phCommon) (F3 : Fd m CX0 k "are_same" phSame) (S : ClsS m) (FW : PrS m (k - 1) "wide" phWide) (h1 : 1 ≤ k)
    (m1 : m.mg "list" = none) (m2 : m.mg "zip" = none) (m3 : m.mg "tuple" = none) (m4 : m.mg "enumerate" = none) (m5 : m.mg "range" = none) :
    FnOk m.P m.w m.K m.mg m.base CX0 (k + 1) f fd A_agreeing (spOf m.G phAgree) := by
  refine fn_ok F sc_agreeing (fun ds M P R h => by obtain ⟨a, b, rfl, _⟩ := h; rfl) (fun c ds M P R hc o hl h => ?_)
  subst hc
  obtain ⟨s1, s2, rfl, hs1, hs2, p⟩ := h
  have hw1 := wide_le hs1
  have hw2 := wide_le hs2
  have hbf := bnd_few hs1 hs2
  have hpos : 0 < perN s1 s2 := by unfold perN; split <;> omega
  show Eb c [some (.scr (ssD s1)), some (.scr (ssD s2)), none, none, none, none, none, none, none, none, none, none] M _ _
  refine sq_ret ?_
  refine b_cons' (by rfl) ?_
  repeat walk_at "x"
  refine ⟨⟨_, rfl⟩, s1, rfl, hs1, ?_⟩
  repeat walk_at "x"
  refine ⟨⟨_, rfl⟩, s2, rfl, hs2, ?_⟩
  repeat ((fail_if_success (with_reducible show Ee _ _ _ (.IfExp _ _ _ _) _)); walk_at "x")
  have hev : decide ((wideOf s1 : Int) = (wideOf s2 : Int)) = decide (wideOf s1 = wideOf s2) := decide_eq_decide.mpr Int.natCast_inj
  rw [hev]
  refine Ep.imp (P := fun d M1 => d = dI (perN s1 s2) ∧ M = M1) ?_ fun d M1 h => ?_
  · repeat walk_at "x"
    refine ⟨fun h => ?_, fun h => ?_⟩
    · have h := of_decide_eq_true h
      repeat walk_at "x"
      refine ⟨⟨_, rfl⟩, s1, rfl, hs1, ?_⟩
      rw [perN, if_pos h]; exact ⟨rfl, rfl⟩
    · have h := of_decide_eq_false h
      repeat walk_at "x"
      rw [perN, if_neg h]; exact ⟨rfl, rfl⟩
  obtain ⟨rfl, rfl⟩ := h
  repeat ((fail_if_success (with_reducible show Ee _ _ _ (.IfExp _ _ _ _) _)); walk_at "x")
  refine Ep.imp (P := fun d M1 => d = dL (prsL s1 s2) ∧ M = M1) ?_ fun d M1 h => ?_
  · repeat walk_at "x"
    refine ⟨fun h => ?_, fun h => ?_⟩
    · have h := of_decide_eq_true h
      repeat walk_at "x"
      refine ⟨s1, rfl, hs1, ?_⟩
      repeat walk_at "x"
      refine ⟨s2, rfl, hs2, ?_⟩
      repeat walk_at "x"
      refine ⟨_, _, rfl, by rw [List.length_map, List.length_map, ordsN_len, ordsN_len, h], by rw [List.length_map, ordsN_len]; omega, ?_⟩
      rw [prsL, if_pos h]; exact ⟨rfl, rfl⟩
    · have h := of_decide_eq_false h
      repeat walk_at "x"
      refine e_lst ?_
      repeat walk_at "x"
      rw [prsL, if_neg h]; exact ⟨rfl, rfl⟩
  obtain ⟨rfl, rfl⟩ := h
  have hpl := prsL_len (s1 := s1) (s2 := s2)
  have hpl2 : (prsL s1 s2).length ≤ 27 := by rw [hpl]; split <;> omega
  repeat walk_at "x"
  refine e_lcF [("at", 6), ("pair", 7)] o rfl (fun _ => rfl) ?_
  refine i_enumL o m4 rfl rfl ?_
  repeat walk_at "x"
  refine ⟨_, _, rfl, .p _, ?_⟩
  refine ⟨fun r => decide (orderN s1 r = orderN s2 r), natI, by omega, fun _ _ => .p _, fun j acc a1 hj X1 o1 => ?_, fun a1 => ?_⟩
  · dsimp only
    rw [prsL_get hj]
    repeat walk_at "x"
    intro X2 o2
    repeat walk_at "x"
    refine ox_tup (j := 0) rfl (.inl rfl) ?_
    repeat walk_at "x"
    refine ox_tup (j := 1) rfl (.inl rfl) ?_
    refine oe_c sC (orderN s1 j) (orderN s2 j) (.p _) (.p _) rfl ?_
    refine ⟨_, rfl, rfl, rfl, fun hz X3 o3 => ?_⟩
    repeat walk_at "x"
    exact ⟨rfl, rfl⟩
  rw [rem_prs]
  repeat walk_at "x"
  refine c_tuple (.inl (.own (.head _))) ?_
  refine sq_conv (M2 := M) Conv.drop ?_
  repeat ((fail_if_success (with_reducible show Ee _ _ _ (.IfExp _ _ _ _) _)); walk_at "x")
  refine Ep.imp (P := fun d M1 => d = dI (bndN s1 s2) ∧ M = M1) ?_ fun d M1 h => ?_
  · repeat walk_at "x"
    refine ⟨fun h => ?_, fun h => ?_⟩
    · have h := of_decide_eq_true h
      repeat walk_at "x"
      refine ⟨⟨_, rfl⟩, s1, rfl, hs1, ?_⟩
      refine om_int (.inl ⟨by decide, by decide⟩) ?_
      rw [bndN, if_pos h]; exact ⟨by rw [Int.natCast_mul]; rfl, rfl⟩
    · have h := of_decide_eq_false h
      repeat walk_at "x"
      refine ⟨⟨_, rfl⟩, s1, rfl, hs1, ?_⟩
      repeat walk_at "x"
      refine ⟨⟨_, rfl⟩, s2, rfl, hs2, ?_⟩
      repeat walk_at "x"
      refine ⟨_, _, rfl, by omega, by omega, by omega, by omega, ?_⟩
      repeat walk_at "x"
      rw [bndN, if_neg h]; exact ⟨rfl, rfl⟩
  obtain ⟨rfl, rfl⟩ := h
  repeat walk_at "x"
  refine s_setC o rfl hl ?_
  refine e_lcM [("length", 10)] o rfl (fun _ => rfl) ?_
  repeat walk_at "x"
  refine ⟨⟨by omega, by omega⟩, ?_⟩
  rw [Int.toNat_natCast]
  refine ⟨fun n => .bool (decide (sameAt s1 s2 n)), by omega, fun _ _ => trivial, fun n acc a2 hn X1 o1 => ?_, fun a2 => ?_⟩
  · repeat walk_at "x"
    intro X2 o2
    repeat walk_at "x"
    exact ⟨s1, s2, n, rfl, hs1, hs2, by omega, rfl, rfl⟩
  repeat walk_at "x"
  refine ⟨⟨by omega, by omega⟩, ?_⟩
  rw [Int.toNat_natCast]
  have hget : ∀ n, n < bndN s1 s2 → ((List.range (bndN s1 s2)).map fun n => PyData.bool (decide (sameAt s1 s2 n)))[n]? = some (.bool (decide (sameAt s1 s2 n))) := fun n hn => by rw [List.getElem?_map, List.getElem?_range hn]; rfl
  have hSt : startN s1 s2 = startOf (misN s1 s2) (bndN s1 s2) := rfl
  have hEa : earlyN s1 s2 = (List.range (startN s1 s2)).filter fun n => decide (sameAt s1 s2 n) := rfl
  have hsl := startOf_le (mis := misN s1 s2) (bndN s1 s2)
  rw [← hSt] at hsl
  generalize hB : bndN s1 s2 = B at *
  generalize hTl : ((List.range B).map fun n => PyData.bool (decide (sameAt s1 s2 n))) = TL at *
  refine ⟨fun i Γ' M' => ∃ y10, Γ' = [some (.scr (ssD s1)), some (.scr (ssD s2)), some (dB (decide (wideOf s1 = wideOf s2))), some (dI (perN s1 s2)), some (dL (prsL s1 s2)), some (dT ((remN s1 s2).map natI)), none, none, some (dI B), some (.own a2), y10, some (dI (startOf (misN s1 s2) i))] ∧ M' = (a2, Cell.lst TL) :: M, ⟨_, rfl, rfl⟩, fun _ _ _ _ _ => trivial, fun i Γ' M' hi hj => ?_, fun Γ' M' hj => ?_⟩
  · obtain ⟨y10, rfl, rfl⟩ := hj
    repeat walk_at "x"
    refine ox_lst (.own (.head _)) (hget i hi) (.inl rfl) ?_
    repeat walk_at "x"
    refine o_mod (by omega) ?_
    rw [← Int.natCast_emod]
    repeat walk_at "x"
    refine o_in (d := natI (i % perN s1 s2)) (ds := (remN s1 s2).map natI) (.inr rfl) rfl (by simp [fl, natI]) ?_
    rw [if_neg Bool.false_ne_true, show (List.any ((remN s1 s2).map natI) fun y => PyData.eqv y (natI (i % perN s1 s2))) = decide (i % perN s1 s2 ∈ remN s1 s2) from any_c nC (remN s1 s2) _]
    repeat walk_at "x"
    have hmis : misN s1 s2 i = !decide (decide (sameAt s1 s2 i) = decide (i % perN s1 s2 ∈ remN s1 s2)) := by
      unfold misN
      cases decide (sameAt s1 s2 i) <;> cases decide (i % perN s1 s2 ∈ remN s1 s2) <;> rfl
    have hso : startOf (misN s1 s2) (i + 1) = if misN s1 s2 i = true then i + 1 else startOf (misN s1 s2) i := rfl
    refine ⟨fun h => ?_, fun h => ?_⟩
    · rw [if_pos (hmis.trans h)] at hso
      repeat walk_at "x"
      dsimp only
      rw [hso]
      exact ⟨_, rfl, rfl⟩
    · rw [if_neg (by rw [hmis.trans h]; decide)] at hso
      repeat walk_at "x"
      dsimp only
      rw [hso]
      exact ⟨_, rfl, rfl⟩
  · obtain ⟨y10, rfl, rfl⟩ := hj
    rw [← hSt]
    unfold agrD at p
    generalize startN s1 s2 = St at *
    repeat walk_at "x"
    refine e_lcF [("length", 10)] o rfl (fun _ => rfl) ?_
    repeat walk_at "x"
    refine ⟨⟨by omega, by omega⟩, ?_⟩
    rw [Int.toNat_natCast]
    refine ⟨fun n => decide (sameAt s1 s2 n), natI, by omega, fun _ _ => trivial, fun n acc a3 hn X1 o1 => ?_, fun a3 => ?_⟩
    · repeat walk_at "x"
      intro X2 o2
      repeat walk_at "x"
      refine t_val (fun _ => rfl) ?_
      repeat walk_at "x"
      refine ox_lst (.own (.tail _ (.head _))) (hget n (by omega)) (.inl rfl) ?_
      refine ⟨_, rfl, rfl, rfl, fun hz X3 o3 => ?_⟩
      repeat walk_at "x"
      exact ⟨rfl, rfl⟩
    rw [← hEa]
    repeat walk_at "x"
    refine c_tuple (.inl (.own (.head _))) ?_
    repeat walk_at "x"
    exact ⟨M, Conv.drop.trans Conv.drop, p⟩
end

section
open PySem PySem.Spec PyProof.Rows L2
open Evl (Ex)
abbrev lc3 (elt t0 i0 t1 i1 t2 i2 : Expr) (f0 f1 f2 : List Expr) (scope : Scope) (pos : Pos) : Expr := .ListComp elt [⟨t0, i0, f0, 0⟩, ⟨t1, i1, f1, 0⟩, ⟨t2, i2, f2, 0⟩] scope pos
def turnO (e : Expr) (n : Nat) (t i : Expr) (fs : List Expr) (j : Expr) (it acc : Value) (env : Env) : Sem PySem.Fin := (do
  standAt i.pos
  match ← pyNext it with
  | none => pure (.done .next)
  | some v =>
    letOwnedTupleGo t it v
    assign t env v
    let mut ok := true
    for c in fs do
      if ok then ok ← isTrue c env (eval c env)
    if ok then
      let x ← eval j env
      standAt j.pos
      let x ← foldedSetIterable j env x
      let _ ← runOwn (.compStart e (n + 1) (← holding [x] (pyIter x)) acc env) env
    again (.compLoop e n it acc env))
def turnL (e : Expr) (n : Nat) (t i elt : Expr) (fs : List Expr) (it acc : Value) (env : Env) : Sem PySem.Fin := (do
  standAt i.pos
  match ← pyNext it with
  | none => pure (.done .next)
  | some v =>
    letOwnedTupleGo t it v
    assign t env v
    let mut ok := true
    for c in fs do
      if ok then ok ← isTrue c env (eval c env)
    if ok then
      (do let _ ← call (.builtin "list.append") [acc, ← eval elt env])
    again (.compLoop e n it acc env))
section
variable {elt t0 i0 t1 i1 t2 i2 : Expr} {f0 f1 f2 : List Expr} {scope : Scope} {pos : Pos} {it acc : Value} {env : Env}
theorem turn3_0 : compTurn (lc3 elt t0 i0 t1 i1 t2 i2 f0 f1 f2 scope pos) 0 it acc env = turnO (lc3 elt t0 i0 t1 i1 t2 i2 f0 f1 f2 scope pos) 0 t0 i0 f0 i1 it acc env := by rfl
theorem turn3_1 : compTurn (lc3 elt t0 i0 t1 i1 t2 i2 f0 f1 f2 scope pos) 1 it acc env = turnO (lc3 elt t0 i0 t1 i1 t2 i2 f0 f1 f2 scope pos) 1 t1 i1 f1 i2 it acc env := by rfl
theorem turn3_2 : compTurn (lc3 elt t0 i0 t1 i1 t2 i2 f0 f1 f2 scope pos) 2 it acc env = turnL (lc3 elt t0 i0 t1 i1 t2 i2 f0 f1 f2 scope pos) 2 t2 i2 elt f2 it acc env := by rfl
end
section
variable {prog : Program} {w : World} {A : Around} {R : Result → Shared → Prop} {s : Shared} {t i j elt : Expr} {gs : List Comprehension} {scope : Scope} {pos : Pos} {fs : List Expr} {n : Nat} {it acc : Value} {env : Env}
abbrev forTests (fs : List Expr) (env : Env) : Sem Bool := forIn fs true fun c r => if r = true then do let ok ← isTrue c env (eval c env); pure (ForInStep.yield ok) else pure (ForInStep.yield r)
theorem loop_o (ht : compTurn (.ListComp elt gs scope pos) n it acc env = turnO (.ListComp elt gs scope pos) n t i fs j it acc env) (hs : ∀ x, foldedSetIterable j env x = pure x) (I : Nat → Shared → Prop)
    (turn : ∀ k s, I k s → wpAny (model prog w) A (pyNext it) (fun r s₁ => match r with
      | none => R (.ok .next) s₁
      | some v => wpAny (model prog w) A (letOwnedTupleGo t it v) (fun _ s₂ => wpAny (model prog w) A (assign t env v) (fun _ s₃ =>
          wpAny (model prog w) A (forTests fs env) (fun ok s₄ =>
            if ok = true then wpAny (model prog w) A (eval j env) (fun x s₅ => wpAny (model prog w) A (pyIter x) (fun it1 s₆ =>
              codeAny (model prog w) A (.compStart (.ListComp elt gs scope pos) (n + 1) it1 acc env) (fun r s' => match r with
                | .ok _ => ∃ m, m < k ∧ I m s'
                | .error _ => False) s₆) (notedBy (model prog w) A env fun e s' => R (.error e) s') s₅) (notedBy (model prog w) A env fun e s' => R (.error e) s') s₄
            else ∃ m, m < k ∧ I m s₄) (notedBy (model prog w) A env fun e s' => R (.error e) s') s₃) (notedBy (model prog w) A env fun e s' => R (.error e) s') s₂) (notedBy (model prog w) A env fun e s' => R (.error e) s') s₁) (notedBy (model prog w) A env fun e s' => R (.error e) s') s)
    (k : Nat) (h : I k s) : codeAny (model prog w) A (.compLoop (.ListComp elt gs scope pos) n it acc env) R s := by
  refine codeAny_loop rfl I (fun k s hI => ?_) k h
  show wpAny _ A ((compTurn (.ListComp elt gs scope pos) n it acc env).onRaise (fun x => do noteFrame x env; theTreesLotGoes x)) _ _ s
  refine wpAny_noted ?_
  rw [ht, turnO]
  refine wpAny_bind (wpAny_standAt (wpAny_bind (wpAny_mono (turn k s hI) (fun r s₁ h₁ => ?_) fun _ _ h' => h')))
  cases r with
  | none => exact wpAny_pure h₁
  | some v =>
    refine wpAny_bind (wpAny_mono h₁ (fun _ s₂ h₂ => ?_) fun _ _ h' => h')
    refine wpAny_bind (wpAny_mono h₂ (fun _ s₃ h₃ => wpAny_bind (wpAny_mono h₃ (fun ok s₄ h₄ => ?_) fun _ _ h' => h')) fun _ _ h' => h')
    cases ok with
    | false => exact wpAny_pure ⟨rfl, h₄⟩
    | true =>
      refine wpAny_bind (wpAny_mono h₄ (fun x s₅ h₅ => ?_) fun _ _ h' => h')
      refine wpAny_bind (wpAny_standAt (wpAny_bind (wpAny_of_eq (hs x) (wpAny_bind (wpAny_holding (wpAny_mono h₅ (fun it1 s₆ h₆ => ?_) fun _ _ h' => h'))))))
      refine wpAny_bind (wpAny_runOwn ?_)
      rw [Around.mark_none]
      refine codeAny_mono h₆ fun r s' hr => ?_
      cases r with
      | ok f =>
        first
          | exact wpAny_pure ⟨rfl, hr⟩
          | exact wpAny_bind (wpAny_pure (wpAny_pure ⟨rfl, hr⟩))
      | error e => exact hr.elim
theorem loop_l (ht : compTurn (.ListComp elt gs scope pos) n it acc env = turnL (.ListComp elt gs scope pos) n t i elt fs it acc env) (I : Nat → Shared → Prop)
    (turn : ∀ k s, I k s → wpAny (model prog w) A (pyNext it) (fun r s₁ => match r with
      | none => R (.ok .next) s₁
      | some v => wpAny (model prog w) A (letOwnedTupleGo t it v) (fun _ s₂ => wpAny (model prog w) A (assign t env v) (fun _ s₃ =>
          wpAny (model prog w) A (forTests fs env) (fun ok s₄ =>
            if ok = true then wpAny (model prog w) A (eval elt env) (fun x s₅ =>
              wpAny (model prog w) A (call (.builtin "list.append") [acc, x]) (fun _ s₆ => ∃ m, m < k ∧ I m s₆) (notedBy (model prog w) A env fun e s' => R (.error e) s') s₅) (notedBy (model prog w) A env fun e s' => R (.error e) s') s₄
            else ∃ m, m < k ∧ I m s₄) (notedBy (model prog w) A env fun e s' => R (.error e) s') s₃) (notedBy (model prog w) A env fun e s' => R (.error e) s') s₂) (notedBy (model prog w) A env fun e s' => R (.error e) s') s₁) (notedBy (model prog w) A env fun e s' => R (.error e) s') s)
    (k : Nat) (h : I k s) : codeAny (model prog w) A (.compLoop (.ListComp elt gs scope pos) n it acc env) R s := by
  refine codeAny_loop rfl I (fun k s hI => ?_) k h
  show wpAny _ A ((compTurn (.ListComp elt gs scope pos) n it acc env).onRaise (fun x => do noteFrame x env; theTreesLotGoes x)) _ _ s
  refine wpAny_noted ?_
  rw [ht, turnL]
  refine wpAny_bind (wpAny_standAt (wpAny_bind (wpAny_mono (turn k s hI) (fun r s₁ h₁ => ?_) fun _ _ h' => h')))
  cases r with
  | none => exact wpAny_pure h₁
  | some v =>
    refine wpAny_bind (wpAny_mono h₁ (fun _ s₂ h₂ => ?_) fun _ _ h' => h')
    refine wpAny_bind (wpAny_mono h₂ (fun _ s₃ h₃ => wpAny_bind (wpAny_mono h₃ (fun ok s₄ h₄ => ?_) fun _ _ h' => h')) fun _ _ h' => h')
    cases ok with
    | false => exact wpAny_pure ⟨rfl, h₄⟩
    | true =>
      exact wpAny_bind (wpAny_bind (wpAny_mono h₄ (fun x s₅ h₅ => wpAny_bind (wpAny_mono h₅ (fun _ s₆ h₆ => wpAny_pure (wpAny_pure ⟨rfl, h₆⟩)) fun _ _ h' => h')) fun _ _ h' => h'))
end
section
variable {prog : Program} {w : World} {A : Around} {R : Result → Shared → Prop} {s : Shared} {elt t0 i0 t1 i1 t2 i2 : Expr} {f0 f1 f2 : List Expr} {scope : Scope} {pos : Pos} {it acc : Value} {env : Env}
theorem start3 {n : Nat} (hn : n = 1 ∨ n = 2) (h0 : codeAny (model prog w) A (.compLoop (lc3 elt t0 i0 t1 i1 t2 i2 f0 f1 f2 scope pos) n it acc env) R s)
    (h : wpAny (model prog w) A (pyIter it) (fun it' s' => codeAny (model prog w) A (.compLoop (lc3 elt t0 i0 t1 i1 t2 i2 f0 f1 f2 scope pos) n it' acc env) R s')
      (notedBy (model prog w) A env fun x s' => R (.error x) s') s) :
    codeAny (model prog w) A (.compStart (lc3 elt t0 i0 t1 i1 t2 i2 f0 f1 f2 scope pos) n it acc env) R s := by
  rcases hn with rfl | rfl
  all_goals
    refine codeAny_of_tree ?_
    show wpAny _ _ ((compStart (lc3 elt t0 i0 t1 i1 t2 i2 f0 f1 f2 scope pos) _ it acc env).onRaise (fun x => do noteFrame x env; standAt theWindowsPlace)) _ _ s
    refine wpAny_notedAt ?_
    unfold compStart
    show wpAny _ _ (ask >>= _) _ _ s
    refine wpAny_bind (wpAny_askSetting (wpAny_ite ?_))
    split
    · first
        | exact wpAny_bind (wpAny_pure (wpAny_pure (And.intro rfl h0)))
        | exact wpAny_pure (And.intro rfl h0)
    · first
        | exact wpAny_bind (wpAny_rule (wpAny_bind (wpAny_standAt (wpAny_bind (wpAny_mono h (fun it' s' h' => wpAny_pure (And.intro rfl h')) fun _ _ x => x)))))
        | (refine wpAny_bind (wpAny_rule ?_); show wpAny _ _ (standAt i1.pos >>= _) _ _ s; exact wpAny_bind (wpAny_standAt (wpAny_bind (wpAny_mono h (fun it' s' h' => wpAny_pure (And.intro rfl h')) fun _ _ x => x))))
        | (refine wpAny_bind (wpAny_rule ?_); show wpAny _ _ (standAt i2.pos >>= _) _ _ s; exact wpAny_bind (wpAny_standAt (wpAny_bind (wpAny_mono h (fun it' s' h' => wpAny_pure (And.intro rfl h')) fun _ _ x => x))))
end
end

section
open PySem PySem.Spec PyProof.Rows L2
open Evl (Ex)
def rSem (X : Cx) (j e : Expr) (n : Nat) (D : Addr) (vs : List Nat) (σ : L2.St) (H : Hp) (Q : Hp → Prop) : Prop := ∀ (pins : List (Addr × Obj)) (s : Shared), Inv X pins σ H s →
  wpAny (model X.prog X.w) X.A (eval j X.env) (fun x s1 => wpAny (model X.prog X.w) X.A (pyIter x) (fun it s2 => codeAny (model X.prog X.w) X.A (.compStart e n it (.ref D) X.env)
    (fun r s' => match r with | .ok _ => ∃ H', Inv X pins (L2.wipe σ vs) H' s' ∧ Q H' | .error _ => False) s2) (fun _ _ => False) s1) (fun _ _ => False) s
def Starts (X : Cx) (e : Expr) (n : Nat) : Prop := ∀ (R : Result → Shared → Prop) (s : Shared) (it acc : Value) (env : Env), codeAny (model X.prog X.w) X.A (.compLoop e n it acc env) R s →
  wpAny (model X.prog X.w) X.A (pyIter it) (fun it' s' => codeAny (model X.prog X.w) X.A (.compLoop e n it' acc env) R s') (notedBy (model X.prog X.w) X.A env fun x s' => R (.error x) s') s → codeAny (model X.prog X.w) X.A (.compStart e n it acc env) R s
section
variable {X : Cx} {D : Addr} {n : Nat} {elt t i j : Expr} {fs : List Expr} {gs : List Comprehension} {scope : Scope} {pos : Pos} {vs vs1 : List Nat} {wi : TI} {g : TG} {tt : TT} {te : TE}
def tRest (wi : TI) (g : TG) (tt : TT) (Y : L2.St → Hp → (Hp → Prop) → Prop) (vs : List Nat) (σ : L2.St) (H : Hp) (Q : Hp → Prop) : Prop := wi σ H fun J H1 => ∃ W : Nat → Nat → Hp → Prop, (∃ m, W 0 m H1) ∧ ∀ j k H, W j k H →
  (J.stop j H ∧ Q H) ∨ (J.go j H ∧ ∃ Nx : Hp → Prop, (∀ H', Nx H' → ∃ k', k' < k ∧ W (j + 1) k' H') ∧ ∀ x H', J.yld j H x H' → g x (L2.wipe σ vs) H' fun σ3 H5 => L2.wipe σ3 vs = L2.wipe σ vs ∧ tt σ3 H5 fun b H6 =>
    if b = true then Y σ3 H6 Nx else Nx H6)
def yElt (te : TE) (D : Addr) : L2.St → Hp → (Hp → Prop) → Prop := fun σ H Nx => te σ H fun y H7 => ∃ acc, H7 D = some (.lst acc) ∧ acc.length < sizeLine ∧ Nx (upd H7 D (.lst (acc ++ [y])))
theorem rest_l (ht : ∀ it acc env, compTurn (.ListComp elt gs scope pos) n it acc env = turnL (.ListComp elt gs scope pos) n t i elt fs it acc env) (hst : Starts X (.ListComp elt gs scope pos) n)
    (hc : X.calm = true) (hx : X.xe = fun _ _ => False) (hi : PI X t i wi) (hg : PG X t g) (hts : PTs X fs tt) (he : PE X elt te) {σ : L2.St} {H : Hp} {Q : Hp → Prop} (h : tRest wi g tt (yElt te D) vs σ H Q) :
    rSem X i (.ListComp elt gs scope pos) n D vs σ H Q := by
  intro pins s I
  have r0 := hi.run pins s σ H _ I h
  simp only [hx] at r0
  refine wpAny_mono r0 (fun xv s1 hx1 => wpAny_mono hx1 (fun itv s2 h2 => ?_) fun _ _ z => z) fun _ _ z => z
  obtain ⟨it1, fp1, tn1, J1, H11, e1, I11, T1, st11, f11, W1, ⟨m1, w1⟩, turn1⟩ := h2
  subst e1
  have stat1 : ∀ {H' : Hp}, (∀ b ∈ fp1, H' b = none) → ∀ b ∈ fp1, FpOk X pins H' b := fun hn b hb => ⟨hn b hb, (f11 b hb).2⟩
  have loop1 : codeAny (model X.prog X.w) X.A (.compLoop (.ListComp elt gs scope pos) n (.ref it1) (.ref D) X.env)
      (fun r s' => match r with | .ok _ => ∃ H', Inv X pins (L2.wipe σ vs) H' s' ∧ Q H' | .error _ => False) s2 := by
    refine loop_l (ht _ _ _) (fun k s' => ∃ j H', Inv X pins (L2.wipe σ vs) H' s' ∧ tn1 j s'.heap ∧ (∀ b ∈ fp1, H' b = none) ∧ W1 j k H') ?_ m1 ⟨0, H11, I11.weak (wipe_length _ _) (fun j v e => (wipe_some e).1), st11, fun b hb => (f11 b hb).1, w1⟩
    rintro k s12 ⟨j, H12, I12, st12, n12, w12⟩
    rcases turn1 j k H12 w12 with ⟨stop1, nx1⟩ | ⟨go1, Nx1, hNx1, step1⟩
    · refine thnF (T1.done X rfl rfl rfl hc j _ s12 _ H12 (fun _ _ => False) I12 (stat1 n12) st12 stop1) fun r s13 ⟨hr, I13⟩ => ?_
      subst hr
      exact ⟨H12, I13, nx1⟩
    · refine thnF (T1.item X rfl rfl rfl hc j _ s12 _ H12 (fun _ _ => False) I12 (stat1 n12) st12 go1) fun r s13 ⟨u1, hr, h13⟩ => ?_
      subst hr
      refine thnF h13 fun _ s14 ⟨x1, H14, I14, r14, y14, st14, n14⟩ => ?_
      have I14' := I14.pinned (stat1 n14) (T1.obj _ _ st14)
      have r1 := hg.run _ s14 _ H14 x1 u1 _ I14' r14 (step1 x1 H14 y14)
      simp only [hx] at r1
      refine thnF r1 fun _ s15 ⟨σ15, H15, I15, hw15, q15⟩ => ?_
      have r2 := hts.run _ s15 σ15 H15 _ I15 q15
      simp only [hx] at r2
      refine thnF r2 fun b1 s16 ⟨H16, I16, q16⟩ => ?_
      have fin1 : ∀ {s' : Shared} {H' : Hp}, Inv X (pins ++ pinsAt fp1 s14.heap) σ15 H' s' → Nx1 H' → ∃ m, m < k ∧ ∃ j H', Inv X pins (L2.wipe σ vs) H' s' ∧ tn1 j s'.heap ∧ (∀ b ∈ fp1, H' b = none) ∧ W1 j m H' := fun {s' H'} I' nx => by
        obtain ⟨m', hm, w'⟩ := hNx1 H' nx
        have pin' : ∀ b ∈ fp1, ∀ o, s14.heap.get? b = some o → s'.heap.get? b = some o ∧ H' b = none := fun b hb o e =>
          let z := I'.pin (b, o) (List.mem_append_right _ (List.mem_append_right _ (mem_pinsAt hb e)))
          ⟨z.1, z.2.1⟩
        refine ⟨m', hm, j + 1, H', I'.unpinned.weak (by rw [← hw15, wipe_length]) (fun j v e => by rw [← hw15] at e; exact (wipe_some e).1), T1.keep _ _ _ st14 fun b hb o e => (pin' b hb o e).1, fun b hb => ?_, w'⟩
        obtain ⟨o, e, _⟩ := T1.obj _ _ st14 b hb
        exact (pin' b hb o e).2
      cases b1 with
      | false =>
        simp only [Bool.false_eq_true, if_false] at q16 ⊢
        exact fin1 I16 q16
      | true =>
        simp only [if_true] at q16 ⊢
        have r3 := he.run _ s16 σ15 H16 _ I16 q16
        simp only [hx] at r3
        refine thnF r3 fun z s17 ⟨yv, H17, I17, r17, acc, hD17, hz17, nx⟩ => ?_
        exact app_ok (X := X) I17 hD17 hz17 r17 fun s18 I18 => fin1 I18 nx
  exact hst _ _ _ _ _ loop1 (T1.self X.A 0 _ _ _ st11 loop1)
theorem rest_o (ht : ∀ it acc env, compTurn (.ListComp elt gs scope pos) n it acc env = turnO (.ListComp elt gs scope pos) n t i fs j it acc env) (hst : Starts X (.ListComp elt gs scope pos) n) (hj : ∀ env x, foldedSetIterable j env x = pure x)
    (hc : X.calm = true) (hx : X.xe = fun _ _ => False) (hv : ∀ v ∈ vs1, v ∈ vs) (hi : PI X t i wi) (hg : PG X t g) (hts : PTs X fs tt) {σ : L2.St} {H : Hp} {Q : Hp → Prop} (h : tRest wi g tt (rSem X j (.ListComp elt gs scope pos) (n + 1) D vs1) vs σ H Q) :
    rSem X i (.ListComp elt gs scope pos) n D vs σ H Q := by
  intro pins s I
  have r0 := hi.run pins s σ H _ I h
  simp only [hx] at r0
  refine wpAny_mono r0 (fun xv s1 hx1 => wpAny_mono hx1 (fun itv s2 h2 => ?_) fun _ _ z => z) fun _ _ z => z
  obtain ⟨it1, fp1, tn1, J1, H11, e1, I11, T1, st11, f11, W1, ⟨m1, w1⟩, turn1⟩ := h2
  subst e1
  have stat1 : ∀ {H' : Hp}, (∀ b ∈ fp1, H' b = none) → ∀ b ∈ fp1, FpOk X pins H' b := fun hn b hb => ⟨hn b hb, (f11 b hb).2⟩
  have loop1 : codeAny (model X.prog X.w) X.A (.compLoop (.ListComp elt gs scope pos) n (.ref it1) (.ref D) X.env)
      (fun r s' => match r with | .ok _ => ∃ H', Inv X pins (L2.wipe σ vs) H' s' ∧ Q H' | .error _ => False) s2 := by
    refine loop_o (ht _ _ _) (hj _) (fun k s' => ∃ j H', Inv X pins (L2.wipe σ vs) H' s' ∧ tn1 j s'.heap ∧ (∀ b ∈ fp1, H' b = none) ∧ W1 j k H') ?_ m1 ⟨0, H11, I11.weak (wipe_length _ _) (fun j v e => (wipe_some e).1), st11, fun b hb => (f11 b hb).1, w1⟩
    rintro k s12 ⟨j, H12, I12, st12, n12, w12⟩
    rcases turn1 j k H12 w12 with ⟨stop1, nx1⟩ | ⟨go1, Nx1, hNx1, step1⟩
    · refine thnF (T1.done X rfl rfl rfl hc j _ s12 _ H12 (fun _ _ => False) I12 (stat1 n12) st12 stop1) fun r s13 ⟨hr, I13⟩ => ?_
      subst hr
      exact ⟨H12, I13, nx1⟩
    · refine thnF (T1.item X rfl rfl rfl hc j _ s12 _ H12 (fun _ _ => False) I12 (stat1 n12) st12 go1) fun r s13 ⟨u1, hr, h13⟩ => ?_
      subst hr
      refine thnF h13 fun _ s14 ⟨x1, H14, I14, r14, y14, st14, n14⟩ => ?_
      have I14' := I14.pinned (stat1 n14) (T1.obj _ _ st14)
      have r1 := hg.run _ s14 _ H14 x1 u1 _ I14' r14 (step1 x1 H14 y14)
      simp only [hx] at r1
      refine thnF r1 fun _ s15 ⟨σ15, H15, I15, hw15, q15⟩ => ?_
      have r2 := hts.run _ s15 σ15 H15 _ I15 q15
      simp only [hx] at r2
      refine thnF r2 fun b1 s16 ⟨H16, I16, q16⟩ => ?_
      have hl15 : (L2.wipe σ vs).length = σ15.length := by rw [← hw15, wipe_length]
      have hk15 : ∀ (j : Nat) v, (L2.wipe σ vs)[j]? = some (some v) → σ15[j]? = some (some v) := fun j v e => by
        rw [← hw15] at e
        exact (wipe_some e).1
      have hk16 : ∀ (j : Nat) v, (L2.wipe σ vs)[j]? = some (some v) → (L2.wipe σ15 vs1)[j]? = some (some v) := fun j v e => by
        rw [← hw15] at e
        obtain ⟨e1, e2⟩ := wipe_some e
        rw [wipe_out fun z => e2 (hv j z)]
        exact e1
      have fin1 : ∀ {σ9 : L2.St} {s' : Shared} {H' : Hp}, Inv X (pins ++ pinsAt fp1 s14.heap) σ9 H' s' → (L2.wipe σ vs).length = σ9.length → (∀ (j : Nat) v, (L2.wipe σ vs)[j]? = some (some v) → σ9[j]? = some (some v)) → Nx1 H' →
          ∃ m, m < k ∧ ∃ j H', Inv X pins (L2.wipe σ vs) H' s' ∧ tn1 j s'.heap ∧ (∀ b ∈ fp1, H' b = none) ∧ W1 j m H' := fun {σ9 s' H'} I' hl hk nx => by
        obtain ⟨m', hm, w'⟩ := hNx1 H' nx
        have pin' : ∀ b ∈ fp1, ∀ o, s14.heap.get? b = some o → s'.heap.get? b = some o ∧ H' b = none := fun b hb o e =>
          let z := I'.pin (b, o) (List.mem_append_right _ (List.mem_append_right _ (mem_pinsAt hb e)))
          ⟨z.1, z.2.1⟩
        refine ⟨m', hm, j + 1, H', I'.unpinned.weak hl hk, T1.keep _ _ _ st14 fun b hb o e => (pin' b hb o e).1, fun b hb => ?_, w'⟩
        obtain ⟨o, e, _⟩ := T1.obj _ _ st14 b hb
        exact (pin' b hb o e).2
      cases b1 with
      | false =>
        simp only [Bool.false_eq_true, if_false] at q16 ⊢
        exact fin1 I16 hl15 hk15 q16
      | true =>
        simp only [if_true] at q16 ⊢
        refine thnF (q16 _ s16 I16) fun xv s17 h17 => thnF h17 fun itv s18 h18 => ?_
        refine codeAny_mono h18 fun r s' hr => ?_
        cases r with
        | ok f =>
          obtain ⟨H', I', q'⟩ := hr
          exact fin1 I' (hl15.trans (wipe_length σ15 vs1).symm) hk16 q'
        | error e => exact hr
  exact hst _ _ _ _ _ loop1 (T1.self X.A 0 _ _ _ st11 loop1)
def tLcR (wi : TI) (g : TG) (tt : TT) (Y : Addr → L2.St → Hp → (Hp → Prop) → Prop) (vs : List Nat) : TE := fun σ H Q => wi σ H fun J H1 => ∀ D, H1 D = none → ∃ W : Nat → Nat → Hp → Prop, (∃ m, W 0 m (upd H1 D (.lst []))) ∧ ∀ i m H, W i m H →
  (J.stop i H ∧ Q (.ref D) H) ∨ (J.go i H ∧ ∃ Nx : Hp → Prop, (∀ H', Nx H' → ∃ m', m' < m ∧ W (i + 1) m' H') ∧ ∀ x H', J.yld i H x H' → g x (L2.wipe σ vs) H' fun σ2 H2 => L2.wipe σ2 vs = L2.wipe σ vs ∧ tt σ2 H2 fun b H3 =>
    if b = true then Y D σ2 H3 Nx else Nx H3)
theorem lcR_core {g0 : Comprehension} {pins : List (Addr × Obj)} {s : Shared} {σ : L2.St} {H : Hp} {Q : VK} {own : List (Str × Nat)} {pos' : Pos} {use : Option (Value → Sem Unit)} {Qf : Value → Shared → Prop}
    (ht0 : ∀ it acc env, compTurn (.ListComp elt (⟨t, i, fs, 0⟩ :: g0 :: gs) scope pos) 0 it acc env = turnO (.ListComp elt (⟨t, i, fs, 0⟩ :: g0 :: gs) scope pos) 0 t i fs j it acc env) (hj : ∀ env x, foldedSetIterable j env x = pure x)
    (hc : X.calm = true) (hN : X.N.Nodup) (I : Inv X pins σ H s) (hi : PI X t i wi) (ok : BlkOk X.N X.env.scope scope own) (hv : ∀ v ∈ vs1, v ∈ own.map (·.2))
    (hg : ∀ (s : Shared) (H : Hp) (C : Addr) (cl : List (Str × Addr)) (fp : List Addr), PG (X.blk s H scope (compEnvC scope cl C X.env) fp) t g) (hts : ∀ (s : Shared) (H : Hp) (C : Addr) (cl : List (Str × Addr)) (fp : List Addr), PTs (X.blk s H scope (compEnvC scope cl C X.env) fp) fs tt)
    (hs : ∀ x, foldedSetIterable i X.env x = pure x)
    (h : tLcR wi g tt (fun D σ H Q => ∀ (s : Shared) (Hh : Hp) (C : Addr) (cl : List (Str × Addr)) (fp : List Addr), rSem (X.blk s Hh scope (compEnvC scope cl C X.env) fp) j (.ListComp elt (⟨t, i, fs, 0⟩ :: g0 :: gs) scope pos) 1 D vs1 σ H Q) (own.map (·.2)) σ H Q)
    (hRR : ∀ D C s' m H', Inv X pins σ H' s' → Q (.ref D) H' → s'.heap.Ns C m → FpOk X pins H' C → compPost (model X.prog X.w) X.A X.xe use Qf (.ref D) C (.ok .next) s') :
    wpAny (model X.prog X.w) X.A (comprehension (.ListComp elt (⟨t, i, fs, 0⟩ :: g0 :: gs) scope pos) scope X.env pos' (newList []) false (eval i X.env) use) Qf X.xe s := by
  have hfree : ∀ y ∈ scope.names, y.2 = .free → ∃ c, X.env.cells.lookup y.1 = some c := fun y hy e => by
    rcases ok.free y hy e with k | k
    · exact I.ok.has _ (.inl k)
    · exact I.ok.has _ (.inr k)
  refine wpAny_comprehension_free (use := use) rfl hs (closure_ok hfree) ok.kind (fun y hy e => by rw [ok.uniq y hy, e])
    (thn (hi.run pins s σ H _ I h) fun xv s1 hx => thn hx fun itv s2 h2 => ?_)
  obtain ⟨it, fp, tn, J, H2, e, I2, T, st2, f2, q⟩ := h2
  subst e
  refine wpAny_newObj_type (newEnv_comp ?_) (by show 0 ≤ sizeLine; decide)
  generalize hD : s2.heap.objs.size = D
  have hDn : H2 D = none := I2.hok.fresh (Nat.le_of_eq hD)
  obtain ⟨W, ⟨m0, w0⟩, turn⟩ := q D hDn
  generalize hs3 : ({ s2 with heap := s2.heap.push { cls := .type "list", data := .seq ([] : List Value).toArray } } : Shared) = s3
  have I3 : Inv X pins σ (upd H2 D (.lst [])) s3 := by
    rw [← hs3]
    refine I2.laid (t' := s2.toks) (fun b o e => Heap.get?_push_of_some _ e) (Nat.le_of_eq hD) ⟨Nat.zero_le _, [], 0, .nil, ?_⟩
    rw [← hD]
    exact Heap.get?_push_size _ rfl
  have h3 : s3.heap = s2.heap.push { cls := .type "list", data := .seq ([] : List Value).toArray } := by rw [← hs3]
  have sz : ∀ b ∈ fp, b < s2.heap.objs.size := fun b hb => by
    obtain ⟨o, e, _⟩ := T.obj _ _ st2 b hb
    exact Heap.lt_size e
  have f3 : ∀ b ∈ fp, FpOk X pins (upd H2 D (.lst [])) b ∧ b < s3.heap.objs.size := fun b hb => by
    have hlt := sz b hb
    refine ⟨⟨?_, (f2 b hb).2⟩, by rw [h3, Heap.size_push]; exact Nat.lt_succ_of_lt hlt⟩
    rw [upd_ne (by rw [← hD]; exact Nat.ne_of_lt hlt)]
    exact (f2 b hb).1
  have st3 : tn 0 s3.heap := T.keep _ _ _ st2 fun b _ o e => by rw [h3]; exact Heap.get?_push_of_some _ e
  have I4 := block_start I3 ok hN f3
  have pg := hg s3 (upd H2 D (.lst [])) s3.heap.objs.size (cellsFrom (s3.heap.objs.size + 1) scope.names (cloFrom X.env.cells scope.names [])) fp
  have pt := hts s3 (upd H2 D (.lst [])) s3.heap.objs.size (cellsFrom (s3.heap.objs.size + 1) scope.names (cloFrom X.env.cells scope.names [])) fp
  have key : ∀ {σ' : L2.St} {Hh : Hp} {Qq : Hp → Prop}, (∀ (s : Shared) (Hb : Hp) (C : Addr) (cl : List (Str × Addr)) (fp : List Addr), rSem (X.blk s Hb scope (compEnvC scope cl C X.env) fp) j (.ListComp elt (⟨t, i, fs, 0⟩ :: g0 :: gs) scope pos) 1 D vs1 σ' Hh Qq) →
      rSem (X.blk s3 (upd H2 D (.lst [])) scope (compEnvC scope (cellsFrom (s3.heap.objs.size + 1) scope.names (cloFrom X.env.cells scope.names [])) s3.heap.objs.size X.env) fp) j (.ListComp elt (⟨t, i, fs, 0⟩ :: g0 :: gs) scope pos) 1 D vs1 σ' Hh Qq := fun h => h _ _ _ _ _
  show codeAny _ _ (.compStart (.ListComp elt (⟨t, i, fs, 0⟩ :: g0 :: gs) scope pos) 0 (.ref it) (.ref D) (compEnvC scope (cellsFrom (s3.heap.objs.size + 1) scope.names (cloFrom X.env.cells scope.names [])) s3.heap.objs.size X.env)) (compPost (model X.prog X.w) X.A X.xe use Qf (.ref D) s3.heap.objs.size) { s3 with heap := pushCells (s3.heap.push { cls := .type "dict", data := .dict #[] }) scope.names }
  have nfp : ∀ b ∈ fp, (upd H2 D (.lst [])) b = none := fun b hb => (f3 b hb).1.1
  generalize hce : compEnvC scope (cellsFrom (s3.heap.objs.size + 1) scope.names (cloFrom X.env.cells scope.names [])) s3.heap.objs.size X.env = ce at I4 pg pt key ⊢
  have cL : ce.locals = s3.heap.objs.size := by subst hce; rfl
  generalize hH3 : upd H2 D (.lst []) = H3 at I3 I4 pg pt key w0 nfp f3
  generalize hs4 : ({ s3 with heap := pushCells (s3.heap.push { cls := .type "dict", data := .dict #[] }) scope.names } : Shared) = s4 at I4 ⊢
  have st4 : tn 0 s4.heap := T.keep _ _ _ st3 fun b _ o e => by rw [← hs4]; exact pushCells_keeps _ _ _ _ (Heap.get?_push_of_some _ e)
  have stat : ∀ {σ' : L2.St} {H' : Hp} {s' : Shared}, Inv (X.blk s3 H3 scope ce fp) [] σ' H' s' → (∀ b ∈ fp, H' b = none) → ∀ b ∈ fp, FpOk (X.blk s3 H3 scope ce fp) [] H' b := fun {σ' H' s'} I' hn b hb =>
    ⟨hn b hb, (I'.ok.exf b hb).1, I'.ok.exfs b hb, .inl hb, fun x c e => (I'.ok.exf b hb).2 x c e, fun p hp => absurd (show p ∈ ([] : List (Addr × Obj)) ++ [] from hp) (by simp)⟩
  have loop : codeAny (model X.prog X.w) X.A (.compLoop (.ListComp elt (⟨t, i, fs, 0⟩ :: g0 :: gs) scope pos) 0 (.ref it) (.ref D) ce) (compPost (model X.prog X.w) X.A X.xe use Qf (.ref D) s3.heap.objs.size) s4 := by
    refine loop_o (ht0 _ _ _) (hj _) (fun n s' => ∃ i H', Inv (X.blk s3 H3 scope ce fp) [] (L2.wipe σ (own.map (·.2))) H' s' ∧ tn i s'.heap ∧ (∀ b ∈ fp, H' b = none) ∧ W i n H') ?_ m0 ⟨0, H3, I4, st4, nfp, w0⟩
    rintro n s5 ⟨i, H5, I5, st5, n5, w5⟩
    rcases turn i n H5 w5 with ⟨stop, qq⟩ | ⟨go, Nx, hNx, step⟩
    · have td := T.done (X.blk s3 H3 scope ce fp) rfl rfl rfl hc i [] s5 _ H5 (fun _ _ => False) I5 (stat I5 n5) st5 stop
      refine thnF td fun r s6 ⟨hr, I6⟩ => ?_
      subst hr
      have I7 : Inv X pins σ H5 s6 := I3.call' (ch := fp) I6.os I6.base I6.hok I6.bare fun b hb => ⟨(f3 b hb).1.2.2.2.1, (f3 b hb).1.2.1, (f3 b hb).1.2.2.2.2.1, (f3 b hb).1.2.2.2.2.2⟩
      have nC : H5 s3.heap.objs.size = none := by
        have z : H5 ce.locals = none := I6.free
        rw [cL] at z
        exact z
      obtain ⟨m, hn, _⟩ := I6.loc
      have hn : s6.heap.Ns ce.locals m := hn
      rw [cL] at hn
      exact hRR D s3.heap.objs.size s6 m H5 I7 qq hn (I3.fpOk (Nat.le_refl _) nC)
    · have ti := T.item (X.blk s3 H3 scope ce fp) rfl rfl rfl hc i [] s5 _ H5 (fun _ _ => False) I5 (stat I5 n5) st5 go
      refine thnF ti fun r s6 ⟨u, hr, h6⟩ => ?_
      subst hr
      refine thnF h6 fun _ s7 ⟨x, H7, I7, r7, y7, st7, n7⟩ => ?_
      have I7' := I7.pinned (stat I7 n7) (T.obj _ _ st7)
      refine thnF (pg.run _ s7 _ H7 x u _ I7' r7 (step x H7 y7)) fun _ s8 ⟨σ8, H8, I8, hw8, q8⟩ => ?_
      refine thnF (pt.run _ s8 σ8 H8 _ I8 q8) fun b s9 ⟨H9, I9, q9⟩ => ?_
      have fin : ∀ {σ9 : L2.St} {s' : Shared} {H' : Hp}, Inv (X.blk s3 H3 scope ce fp) ([] ++ pinsAt fp s7.heap) σ9 H' s' → (L2.wipe σ (own.map (·.2))).length = σ9.length → (∀ (j : Nat) v, (L2.wipe σ (own.map (·.2)))[j]? = some (some v) → σ9[j]? = some (some v)) → Nx H' →
          ∃ m, m < n ∧ ∃ i H', Inv (X.blk s3 H3 scope ce fp) [] (L2.wipe σ (own.map (·.2))) H' s' ∧ tn i s'.heap ∧ (∀ b ∈ fp, H' b = none) ∧ W i m H' := fun {σ9 s' H'} I' hl hk nx => by
        obtain ⟨m', hm, w'⟩ := hNx H' nx
        have pin' : ∀ b ∈ fp, ∀ o, s7.heap.get? b = some o → s'.heap.get? b = some o ∧ H' b = none := fun b hb o e =>
          let z := I'.pin (b, o) (List.mem_append_right _ (List.mem_append_right _ (mem_pinsAt hb e)))
          ⟨z.1, z.2.1⟩
        refine ⟨m', hm, i + 1, H', (I'.unpinned (pins := [])).weak hl hk, T.keep _ _ _ st7 fun b hb o e => (pin' b hb o e).1, fun b hb => ?_, w'⟩
        obtain ⟨o, e, _⟩ := T.obj _ _ st7 b hb
        exact (pin' b hb o e).2
      have hl8 : (L2.wipe σ (own.map (·.2))).length = σ8.length := by rw [← hw8, wipe_length]
      have hk8 : ∀ (j : Nat) v, (L2.wipe σ (own.map (·.2)))[j]? = some (some v) → σ8[j]? = some (some v) := fun j v e => by
        rw [← hw8] at e
        exact (wipe_some e).1
      have hk9 : ∀ (j : Nat) v, (L2.wipe σ (own.map (·.2)))[j]? = some (some v) → (L2.wipe σ8 vs1)[j]? = some (some v) := fun j v e => by
        rw [← hw8] at e
        obtain ⟨e1, e2⟩ := wipe_some e
        rw [wipe_out fun z => e2 (hv j z)]
        exact e1
      cases b with
      | false =>
        simp only [Bool.false_eq_true, if_false] at q9 ⊢
        exact fin I9 hl8 hk8 q9
      | true =>
        simp only [if_true] at q9 ⊢
        refine thnF (key q9 _ s9 I9) fun xv s10 h10 => thnF h10 fun itv s11 h11 => ?_
        refine codeAny_mono h11 fun r s' hr => ?_
        cases r with
        | ok f =>
          obtain ⟨H', I', q'⟩ := hr
          exact fin I' (hl8.trans (wipe_length σ8 vs1).symm) hk9 q'
        | error e => exact hr
  exact codeAny_compStart_list loop (T.self X.A 0 _ _ _ st4 loop)
end
end

section
open PySem PySem.Spec PyProof.Rows L2
open Evl (Ex)
section
variable {X : Cx} {elt t i j : Expr} {fs : List Expr} {g0 : Comprehension} {gs : List Comprehension} {scope : Scope} {pos : Pos} {vs1 : List Nat} {wi : TI} {g : TG} {tt : TT}
theorem pe_lcR {own : List (Str × Nat)}
    (ht0 : ∀ it acc env, compTurn (.ListComp elt (⟨t, i, fs, 0⟩ :: g0 :: gs) scope pos) 0 it acc env = turnO (.ListComp elt (⟨t, i, fs, 0⟩ :: g0 :: gs) scope pos) 0 t i fs j it acc env) (hj : ∀ env x, foldedSetIterable j env x = pure x)
    (hc : X.calm = true) (hN : X.N.Nodup) (hi : PI X t i wi) (ok : BlkOk X.N X.env.scope scope own) (hv : ∀ v ∈ vs1, v ∈ own.map (·.2))
    (hg : ∀ (s : Shared) (H : Hp) (C : Addr) (cl : List (Str × Addr)) (fp : List Addr), PG (X.blk s H scope (compEnvC scope cl C X.env) fp) t g) (hts : ∀ (s : Shared) (H : Hp) (C : Addr) (cl : List (Str × Addr)) (fp : List Addr), PTs (X.blk s H scope (compEnvC scope cl C X.env) fp) fs tt)
    (hs : ∀ x, foldedSetIterable i X.env x = pure x) :
    PE X (.ListComp elt (⟨t, i, fs, 0⟩ :: g0 :: gs) scope pos) (tLcR wi g tt (fun D σ H Q => ∀ (s : Shared) (Hh : Hp) (C : Addr) (cl : List (Str × Addr)) (fp : List Addr), rSem (X.blk s Hh scope (compEnvC scope cl C X.env) fp) j (.ListComp elt (⟨t, i, fs, 0⟩ :: g0 :: gs) scope pos) 1 D vs1 σ H Q) (own.map (·.2))) := by
  refine ⟨fun pins s σ H Q I h => ?_⟩
  rw [eval_ListComp]
  refine lcR_core ht0 hj hc hN I hi ok hv hg hts hs h fun D C s' m H' I' q hn f => ⟨m, hn, fun h'' sb => ?_⟩
  obtain ⟨f0, f1, f2, f3, f4, f5⟩ := f
  exact ⟨.ref D, H', I'.turned (t' := s'.toks) (fun b o hb e => (sb.2 b hb).trans e) f0 f1 f3 f4 f5, rfl, q⟩
theorem ps_setLcR {n : Nat} {y : Str} {py : Pos} {spos : Pos} {own : List (Str × Nat)}
    (hy : X.N[n]? = some y) (hyl : X.env.scope.names.lookup y = some .local)
    (hsw : swapsWith (.ListComp elt (⟨t, i, fs, 0⟩ :: g0 :: gs) scope pos) (some (.Name y py)) spos.line X.env = pure true)
    (ht0 : ∀ it acc env, compTurn (.ListComp elt (⟨t, i, fs, 0⟩ :: g0 :: gs) scope pos) 0 it acc env = turnO (.ListComp elt (⟨t, i, fs, 0⟩ :: g0 :: gs) scope pos) 0 t i fs j it acc env) (hj : ∀ env x, foldedSetIterable j env x = pure x)
    (hc : X.calm = true) (hN : X.N.Nodup) (hi : PI X t i wi) (ok : BlkOk X.N X.env.scope scope own) (hv : ∀ v ∈ vs1, v ∈ own.map (·.2))
    (hg : ∀ (s : Shared) (H : Hp) (C : Addr) (cl : List (Str × Addr)) (fp : List Addr), PG (X.blk s H scope (compEnvC scope cl C X.env) fp) t g) (hts : ∀ (s : Shared) (H : Hp) (C : Addr) (cl : List (Str × Addr)) (fp : List Addr), PTs (X.blk s H scope (compEnvC scope cl C X.env) fp) fs tt)
    (hs : ∀ x, foldedSetIterable i X.env x = pure x) :
    PS X (.Assign [.Name y py] (.ListComp elt (⟨t, i, fs, 0⟩ :: g0 :: gs) scope pos) spos) (tAsg (tLcR wi g tt (fun D σ H Q => ∀ (s : Shared) (Hh : Hp) (C : Addr) (cl : List (Str × Addr)) (fp : List Addr), rSem (X.blk s Hh scope (compEnvC scope cl C X.env) fp) j (.ListComp elt (⟨t, i, fs, 0⟩ :: g0 :: gs) scope pos) 1 D vs1 σ H Q) (own.map (·.2))) (gName n)) := by
  refine ⟨fun pins s σ H D I h => ?_⟩
  rw [exec_Assign_Name_used _ _ _ _ hsw]
  refine wpAny_bind (wpAny_standAt (wpAny_bind ?_))
  show wpAny _ X.A (do let _ ← comprehension (.ListComp elt (⟨t, i, fs, 0⟩ :: g0 :: gs) scope pos) scope X.env (firstIterPos (⟨t, i, fs, 0⟩ :: g0 :: gs) pos) (newList []) false (eval i X.env) (some (assign (.Name y py) X.env))) _ _ s
  have h : tLcR wi g tt (fun D σ H Q => ∀ (s : Shared) (Hh : Hp) (C : Addr) (cl : List (Str × Addr)) (fp : List Addr), rSem (X.blk s Hh scope (compEnvC scope cl C X.env) fp) j (.ListComp elt (⟨t, i, fs, 0⟩ :: g0 :: gs) scope pos) 1 D vs1 σ H Q) (own.map (·.2)) σ H (fun x H1 => gName n x σ H1 D.nx) := h
  refine wpAny_bind (thn (lcR_core (Qf := fun _ s' => SP X pins D .next s') ht0 hj hc hN I hi ok hv hg hts hs h fun L C s' m H' I' q hn f => ?_) fun _ s' hq => wpAny_pure (wpAny_pure hq))
  show wpAny _ _ (assign (.Name y py) X.env (.ref L)) _ _ _
  refine wpAny_assign_Name (store_ok2 (v := V.ref L) I' hN hy (.inl hyl) rfl (fun s2 I2 ⟨a, sb, ha⟩ => ?_) (.inr hyl))
  obtain ⟨f0, f1, f2, f3, f4, f5⟩ := f
  have haC : C ≠ a := by
    rcases ha with z | z
    · rw [z]; exact f1
    · exact fun e => f4 y a z e.symm
  refine ⟨m, hn.sameBut sb haC, fun h3 sb3 => ?_⟩
  exact ⟨_, H', I2.turned (t' := s2.toks) (fun b o hb e => (sb3.2 b hb).trans e) f0 f1 f3 f4 f5, q⟩
end
def Er (c : Cd) (Γ : Gx) (M : Mem) (j e : Expr) (n : Nat) (D : Addr) (vs : List Nat) (P : Mem → Prop) : Prop :=
  ∀ (σ : L2.St) (H H1 : Hp) (Q : Hp → Prop), Tr c.G c.B H H1 M → Slots c.G H σ Γ → (∀ M' H' H2, P M' → Tr c.G c.B H' H2 M' → Ex H H' → Q H2) → rSem c.X j e n D vs σ H1 Q
section
variable {c : Cd} {N : List Str} {sc : Scope} {k : Nat} {Γ : Gx} {M : Mem} {P : D → Mem → Prop} {nx_ bk_ ct_ : Gx → Mem → Prop} {rt_ : D → Mem → Prop} {elt t i j : Expr} {fs : List Expr} {gs : List Comprehension} {g0 : Comprehension} {scope : Scope} {pos : Pos} {vs vs1 : List Nat} {n : Nat} {a : Addr} {acc : List PyData}
theorem pts_sem {X : Cx} {ifs : List Expr} : PTs X ifs (tsSem X ifs) := ⟨fun pins s σ H Q I h => h pins s I⟩
theorem tr_put {H H1 : Hp} {p : PyData} {w : V} (t8 : Tr c.G c.B H H1 ((a, .lst acc) :: M)) (i8 : Is c.G H w (.p p)) (hl : acc.length < 100000) : ∃ ws, H1 a = some (.lst ws) ∧ ws.length < sizeLine ∧ Tr c.G c.B H (upd H1 a (.lst (ws ++ [w]))) ((a, .lst (acc ++ [p])) :: M) := by
  obtain ⟨ws, h1, h2⟩ := t8.ok.cells a _ List.mem_cons_self
  refine ⟨ws, h1, Nat.lt_of_lt_of_le (by rw [dpa_len h2]; exact hl) (Evl.sz_of (Nat.le_refl _)), ?_⟩
  exact t8.trans (t8.ok.put (i := 0) (c' := .lst (acc ++ [p])) (H2 := upd H1 a (.lst (ws ++ [w]))) rfl rfl (fun b o hb hq => by rw [upd_ne (by simpa [fp1] using hb)]; exact hq) ⟨ws ++ [w], upd_same, dpa_append h2 (.cons i8 .nil)⟩)
theorem er_l {P : Mem → Prop} (ht : ∀ it acc env, compTurn (.ListComp elt gs scope pos) n it acc env = turnL (.ListComp elt gs scope pos) n t i elt fs it acc env) (hst : Starts c.X (.ListComp elt gs scope pos) n)
    (o : c.Ok N sc k) (hx : c.X.xe = fun _ _ => False)
    (h : Ei c Γ ((a, .lst acc) :: M) t i fun nn f Kp M1 => M1 = (a, .lst acc) :: M ∧ ∃ (tt : Nat → Bool) (g : Nat → PyData), acc.length + nn ≤ 99999 ∧ (∀ acc', Kp ((a, .lst acc') :: M)) ∧
      (∀ q acc', q < nn → Egv c (wipeE Γ vs) ((a, .lst acc') :: M) t (f q) vs fun Γ2 M2 => Ets c Γ2 M2 fs fun b M3 => b = tt q ∧ M3 = (a, .lst acc') :: M ∧ (b = true → Ee c Γ2 M3 elt fun y M4 => y = .p (g q) ∧ M4 = (a, .lst acc') :: M)) ∧
      P ((a, .lst (acc ++ ((List.range nn).filter tt).map g)) :: M)) : Er c Γ ((a, .lst acc) :: M) i (.ListComp elt gs scope pos) n a vs P := by
  intro σ H H1 Q tr sl q
  refine rest_l (wi := iSem c.X t i) (g := gSem c.X t) (tt := tsSem c.X fs) (te := eSem c.X elt) ht hst o.calm hx pi_sem pg_sem pts_sem pe_sem ?_
  refine h σ H H1 _ tr sl fun nn f Kp M1 It' H' H2 p1 tr1 e1 it => ?_
  obtain ⟨rfl, tt, g, hn, hk, hs, hd⟩ := p1
  have hl : ∀ i, i < nn → (acc ++ ((List.range i).filter tt).map g).length < 100000 := fun i hi => by
    rw [List.length_append, List.length_map]
    have := List.length_filter_le tt (List.range i)
    rw [List.length_range] at this
    omega
  refine ⟨fun i m Hq => m = nn - i ∧ i ≤ nn ∧ ∃ H'', Tr c.G c.B H'' Hq ((a, .lst (acc ++ ((List.range i).filter tt).map g)) :: M) ∧ Ex H' H'', ⟨nn, by simp, Nat.zero_le _, H', by simpa using tr1, Evl.Ex.refl H'⟩, ?_⟩
  rintro i m Hq ⟨rfl, hi, H'', t1, ex⟩
  obtain ⟨hstop, hgo⟩ := it i H'' Hq _ t1 ex (hk _)
  by_cases hlt : i < nn
  · obtain ⟨g1, g2⟩ := hgo hlt
    refine .inr ⟨g1, fun H6 => ∃ H5, Tr c.G c.B H5 H6 ((a, .lst (acc ++ ((List.range (i + 1)).filter tt).map g)) :: M) ∧ Ex H' H5, fun H6 p5 => ⟨nn - (i + 1), by omega, rfl, hlt, p5⟩, fun x Hp' y => ?_⟩
    obtain ⟨H3, t3, e3, i3⟩ := g2 x Hp' y
    refine hs i _ hlt (L2.wipe σ vs) H3 Hp' x _ t3 ((sl.mono ((e1.trans ex).trans e3)).wipe vs) i3 fun Γ2 M2 σ2 H4 H5 p2 t2 x2 s2 hw => ⟨by rw [hw, wipe_wipe fun v hv => hv], ?_⟩
    refine p2 σ2 H4 H5 _ t2 s2 fun b M3 H6 H7 p6 t6 x6 => ?_
    obtain ⟨hb, rfl, p6⟩ := p6
    have e6 : Ex H' H6 := ((ex.trans e3).trans x2).trans x6
    cases b with
    | false =>
      rw [if_neg Bool.false_ne_true]
      refine ⟨H6, ?_, e6⟩
      rw [List.range_succ, List.filter_append, List.filter_cons_of_neg (by rw [← hb]; decide), List.filter_nil, List.append_nil]
      exact t6
    | true =>
      rw [if_pos rfl]
      refine p6 rfl σ2 H6 H7 _ t6 (s2.mono x6) fun y M4 w H8 H9 p8 t8 x8 i8 => ?_
      obtain ⟨rfl, rfl⟩ := p8
      obtain ⟨ws, w1, w2, w3⟩ := tr_put t8 i8 (hl i hlt)
      refine ⟨ws, w1, w2, H8, ?_, e6.trans x8⟩
      rw [List.range_succ, List.filter_append, List.filter_cons_of_pos hb.symm, List.filter_nil, List.map_append, ← List.append_assoc]
      exact w3
  · have e : i = nn := by omega
    subst e
    exact .inl ⟨hstop (Nat.le_refl _), q _ H'' Hq hd t1 (e1.trans ex)⟩
theorem er_o {P : Mem → Prop} (ht : ∀ it acc env, compTurn (.ListComp elt gs scope pos) n it acc env = turnO (.ListComp elt gs scope pos) n t i [] j it acc env) (hst : Starts c.X (.ListComp elt gs scope pos) n) (hj : ∀ env x, foldedSetIterable j env x = pure x)
    (o : c.Ok N sc k) (hx : c.X.xe = fun _ _ => False) (hv : ∀ v ∈ vs1, v ∈ vs)
    (h : Ei c Γ ((a, .lst acc) :: M) t i fun nn f Kp M1 => M1 = (a, .lst acc) :: M ∧ ∃ (g : Nat → List PyData), acc.length + ((List.range nn).flatMap g).length ≤ 99999 ∧ (∀ acc', Kp ((a, .lst acc') :: M)) ∧
      (∀ q acc', q < nn → acc'.length + (g q).length ≤ 99999 → Egv c (wipeE Γ vs) ((a, .lst acc') :: M) t (f q) vs fun Γ2 M2 => Er c Γ2 M2 j (.ListComp elt gs scope pos) (n + 1) a vs1 fun M4 => M4 = (a, .lst (acc' ++ g q)) :: M) ∧
      P ((a, .lst (acc ++ (List.range nn).flatMap g)) :: M)) : Er c Γ ((a, .lst acc) :: M) i (.ListComp elt gs scope pos) n a vs P := by
  intro σ H H1 Q tr sl q
  refine rest_o (wi := iSem c.X t i) (g := gSem c.X t) (tt := tsSem c.X []) ht hst hj o.calm hx hv pi_sem pg_sem pts_sem ?_
  refine h σ H H1 _ tr sl fun nn f Kp M1 It' H' H2 p1 tr1 e1 it => ?_
  obtain ⟨rfl, g, hn, hk, hs, hd⟩ := p1
  have hl : ∀ i, i < nn → (acc ++ (List.range i).flatMap g).length + (g i).length ≤ 99999 := fun i hi => by
    have h1 : ((List.range i).flatMap g).length + (g i).length ≤ ((List.range nn).flatMap g).length := by
      have e : List.range nn = List.range (i + 1) ++ (List.range (nn - (i + 1))).map (i + 1 + ·) := by
        rw [← List.range_add]; congr 1; omega
      rw [e, List.flatMap_append, List.range_succ, List.flatMap_append, List.length_append, List.length_append]
      simp
    rw [List.length_append]; omega
  refine ⟨fun i m Hq => m = nn - i ∧ i ≤ nn ∧ ∃ H'', Tr c.G c.B H'' Hq ((a, .lst (acc ++ (List.range i).flatMap g)) :: M) ∧ Ex H' H'', ⟨nn, by simp, Nat.zero_le _, H', by simpa using tr1, Evl.Ex.refl H'⟩, ?_⟩
  rintro i m Hq ⟨rfl, hi, H'', t1, ex⟩
  obtain ⟨hstop, hgo⟩ := it i H'' Hq _ t1 ex (hk _)
  by_cases hlt : i < nn
  · obtain ⟨g1, g2⟩ := hgo hlt
    refine .inr ⟨g1, fun H6 => ∃ H5, Tr c.G c.B H5 H6 ((a, .lst (acc ++ (List.range (i + 1)).flatMap g)) :: M) ∧ Ex H' H5, fun H6 p5 => ⟨nn - (i + 1), by omega, rfl, hlt, p5⟩, fun x Hp' y => ?_⟩
    obtain ⟨H3, t3, e3, i3⟩ := g2 x Hp' y
    refine hs i _ hlt (hl i hlt) (L2.wipe σ vs) H3 Hp' x _ t3 ((sl.mono ((e1.trans ex).trans e3)).wipe vs) i3 fun Γ2 M2 σ2 H4 H5 p2 t2 x2 s2 hw => ⟨by rw [hw, wipe_wipe fun v hv => hv], ?_⟩
    refine pts_to pts_nil ?_
    unfold tYes
    dsimp only
    rw [if_pos rfl]
    refine p2 σ2 H4 H5 _ t2 s2 fun M4 H8 H9 p8 t8 x8 => ?_
    subst p8
    refine ⟨H8, ?_, ((ex.trans e3).trans x2).trans x8⟩
    rw [List.range_succ, List.flatMap_append, ← List.append_assoc]
    simpa using t8
  · have e : i = nn := by omega
    subst e
    exact .inl ⟨hstop (Nat.le_refl _), q _ H'' Hq hd t1 (e1.trans ex)⟩
abbrev LcR (c : Cd) (N : List Str) (sc scope : Scope) (k : Nat) (Γ : Gx) (vs vs1 : List Nat) (tg j e : Expr) (P : D → Mem → Prop) : Nat → (Nat → D) → (Mem → Prop) → Mem → Prop := fun nn f Kp M1 =>
  ∃ (g : Nat → List PyData), ((List.range nn).flatMap g).length ≤ 99999 ∧ (∀ acc a, Kp ((a, .lst acc) :: M1)) ∧
    (∀ q acc a, q < nn → acc.length + (g q).length ≤ 99999 → ∀ X1, (c.blk X1).Ok N (relS scope sc) k → Egv (c.blk X1) (wipeE Γ vs) ((a, .lst acc) :: M1) tg (f q) vs fun Γ2 M2 => ∀ X2, (c.blk X2).Ok N (relS scope sc) k → X2.xe = (fun _ _ => False) →
      Er (c.blk X2) Γ2 M2 j e 1 a vs1 fun M4 => M4 = (a, .lst (acc ++ g q)) :: M1) ∧
    ∀ a, P (.own a) ((a, .lst ((List.range nn).flatMap g)) :: M1)
theorem tlcR_of {e : Expr} {σ : L2.St} {H H1 : Hp} {Q : VK} (o : c.Ok N sc k) (tr : Tr c.G c.B H H1 M) (sl : Slots c.G H σ Γ)
    (h : Ei c Γ M t i (LcR c N sc scope k Γ vs vs1 t j e P))
    (q : ∀ d M' v H' H2, P d M' → Tr c.G c.B H' H2 M' → Ex H H' → Is c.G H' v d → Q v H2) :
    tLcR (iSem c.X t i) (fun v σ H Q => ∀ s Hh C cl fp, gSem (c.X.blk s Hh scope (compEnvC scope cl C c.X.env) fp) t v σ H Q) (fun σ H Q => ∀ s Hh C cl fp, tsSem (c.X.blk s Hh scope (compEnvC scope cl C c.X.env) fp) [] σ H Q)
      (fun D σ H Q => ∀ (s : Shared) (Hh : Hp) (C : Addr) (cl : List (Str × Addr)) (fp : List Addr), rSem (c.X.blk s Hh scope (compEnvC scope cl C c.X.env) fp) j e 1 D vs1 σ H Q) vs σ H1 Q := h σ H H1 _ tr sl fun nn f Kp M1 It' H' H2 p1 tr1 e1 it a ha => by
  obtain ⟨g, hn, hk, hs, hd⟩ := p1
  have t0 := tr1.ok.newOwn (o := .lst []) (c := .lst []) ha rfl ⟨[], upd_same, .nil⟩
  have hl : ∀ i, i < nn → ((List.range i).flatMap g).length + (g i).length ≤ 99999 := fun i hi => by
    have h1 : ((List.range i).flatMap g).length + (g i).length ≤ ((List.range nn).flatMap g).length := by
      have e : List.range nn = List.range (i + 1) ++ (List.range (nn - (i + 1))).map (i + 1 + ·) := by
        rw [← List.range_add]; congr 1; omega
      rw [e, List.flatMap_append, List.range_succ, List.flatMap_append, List.length_append, List.length_append]
      simp
    omega
  refine ⟨fun i m Hq => m = nn - i ∧ i ≤ nn ∧ ∃ H'', Tr c.G c.B H'' Hq ((a, .lst ((List.range i).flatMap g)) :: M1) ∧ Ex H' H'', ⟨nn, by simp, Nat.zero_le _, H', tr1.trans t0, Evl.Ex.refl H'⟩, ?_⟩
  rintro i m Hq ⟨rfl, hi, H'', t1, ex⟩
  obtain ⟨hstop, hgo⟩ := it i H'' Hq _ t1 ex (hk _ _)
  by_cases hlt : i < nn
  · obtain ⟨g1, g2⟩ := hgo hlt
    refine .inr ⟨g1, fun H6 => ∃ H5, Tr c.G c.B H5 H6 ((a, .lst ((List.range (i + 1)).flatMap g)) :: M1) ∧ Ex H' H5, fun H6 p5 => ⟨nn - (i + 1), by omega, rfl, hlt, p5⟩, fun x Hp' y s Hh C cl fp => ?_⟩
    obtain ⟨H3, t3, e3, i3⟩ := g2 x Hp' y
    refine hs i _ a hlt (hl i hlt) _ (ok_blk (scope := scope) (s := s) (H := Hh) (C := C) (cl := cl) (fp := fp) o) (L2.wipe σ vs) H3 Hp' x _ t3 ((sl.mono ((e1.trans ex).trans e3)).wipe vs) i3 fun Γ2 M2 σ2 H4 H5 p2 t2 x2 s2 hw => ⟨by rw [hw, wipe_wipe fun v hv => hv], fun s' Hh' C' cl' fp' => ?_⟩
    refine pts_to pts_nil ?_
    unfold tYes
    dsimp only
    rw [if_pos rfl]
    intro s3 Hh3 C3 cl3 fp3
    refine p2 _ (ok_blk (scope := scope) (s := s3) (H := Hh3) (C := C3) (cl := cl3) (fp := fp3) o) rfl σ2 H4 H5 _ t2 s2 fun M4 H8 H9 p8 t8 x8 => ?_
    subst p8
    refine ⟨H8, ?_, ((ex.trans e3).trans x2).trans x8⟩
    rw [List.range_succ, List.flatMap_append]
    simpa using t8
  · have e : i = nn := by omega
    subst e
    exact .inl ⟨hstop (Nat.le_refl _), q _ _ _ H'' Hq (hd a) t1 (e1.trans ex) rfl⟩
theorem e_lcR (own : List (Str × Nat)) (vs1 : List Nat) (o : c.Ok N sc k) (ok : blkC N sc scope own = true) (hv : ∀ v ∈ vs1, v ∈ own.map (·.2)) (hs : ∀ x, foldedSetIterable i c.X.env x = pure x)
    (ht0 : ∀ it acc env, compTurn (.ListComp elt (⟨t, i, [], 0⟩ :: g0 :: gs) scope pos) 0 it acc env = turnO (.ListComp elt (⟨t, i, [], 0⟩ :: g0 :: gs) scope pos) 0 t i [] j it acc env) (hj : ∀ env x, foldedSetIterable j env x = pure x)
    (h : Ei c Γ M t i (LcR c N sc scope k Γ (own.map (·.2)) vs1 t j (.ListComp elt (⟨t, i, [], 0⟩ :: g0 :: gs) scope pos) P)) : Ee c Γ M (.ListComp elt (⟨t, i, [], 0⟩ :: g0 :: gs) scope pos) P := by
  refine e_of (pe_lcR (vs1 := vs1) (own := own) ht0 hj o.calm (by rw [o.hN]; exact o.nd) pi_sem (by rw [o.hN, o.esc]; exact blkOk_by ok) hv (fun s H C cl fp => ?_) (fun s H C cl fp => ?_) hs) fun σ H H1 Q tr sl q => tlcR_of o tr sl h q
  · exact ⟨fun pins s σ H v u Q I r h => h _ _ _ _ _ pins s u I r⟩
  · exact ⟨fun pins s σ H Q I h => h _ _ _ _ _ pins s I⟩
theorem s_setLcR {y : Str} {ix : Nat} {py spos : Pos} [hi : At N y ix] (own : List (Str × Nat)) (vs1 : List Nat) (o : c.Ok N sc k) (hl : sc.names.lookup y = some .local) (ok : blkC N sc scope own = true) (hv : ∀ v ∈ vs1, v ∈ own.map (·.2)) (hs : ∀ x, foldedSetIterable i c.X.env x = pure x)
    (hk : sc.kind = .function) (hp : (py.line == pos.line) = true) (hy : (scope.names.any fun (n, k) => n == y && (k == .local || k == .cell)) = false)
    (ht0 : ∀ it acc env, compTurn (.ListComp elt (⟨t, i, [], 0⟩ :: g0 :: gs) scope pos) 0 it acc env = turnO (.ListComp elt (⟨t, i, [], 0⟩ :: g0 :: gs) scope pos) 0 t i [] j it acc env) (hj : ∀ env x, foldedSetIterable j env x = pure x)
    (h : Ei c Γ M t i (LcR c N sc scope k Γ (own.map (·.2)) vs1 t j (.ListComp elt (⟨t, i, [], 0⟩ :: g0 :: gs) scope pos) fun d M1 => nx_ (Γ.set ix (some d)) M1)) : Es c Γ M (.Assign [.Name y py] (.ListComp elt (⟨t, i, [], 0⟩ :: g0 :: gs) scope pos) spos) ⟨nx_, rt_, bk_, ct_⟩ := by
  refine s_of (ps_setLcR (n := ix) (vs1 := vs1) (own := own) (by rw [o.hN]; exact hi.at_) (by rw [o.esc]; exact hl) (sw_true (by rw [o.esc]; exact hk) (by rw [o.esc]; exact hl) hp hy) ht0 hj o.calm (by rw [o.hN]; exact o.nd) pi_sem (by rw [o.hN, o.esc]; exact blkOk_by ok) hv (fun s H C cl fp => ?_) (fun s H C cl fp => ?_) hs)
    fun σ H H1 E tr sl r => tlcR_of (P := fun d M1 => nx_ (Γ.set ix (some d)) M1) o tr sl h fun d M' v H' H2 p t ex iv => r.nx _ M' _ H' H2 p t ex ((sl.mono ex).set ix iv)
  · exact ⟨fun pins s σ H v u Q I r h => h _ _ _ _ _ pins s u I r⟩
  · exact ⟨fun pins s σ H Q I h => h _ _ _ _ _ pins s I⟩
end
section
variable {X : Cx} {elt t0 i0 t1 i1 t2 i2 : Expr} {f0 f1 f2 : List Expr} {scope : Scope} {pos : Pos}
theorem starts3 {n : Nat} (hn : n = 1 ∨ n = 2) : Starts X (lc3 elt t0 i0 t1 i1 t2 i2 f0 f1 f2 scope pos) n := fun _ _ _ _ _ h0 h => start3 hn h0 h
end
section
variable {X : Cx} {elt t0 i0 t1 i1 : Expr} {f0 f1 : List Expr} {scope : Scope} {pos : Pos} {it acc : Value} {env : Env}
abbrev lc2 (elt t0 i0 t1 i1 : Expr) (f0 f1 : List Expr) (scope : Scope) (pos : Pos) : Expr := .ListComp elt [⟨t0, i0, f0, 0⟩, ⟨t1, i1, f1, 0⟩] scope pos
theorem turn2_0 : compTurn (lc2 elt t0 i0 t1 i1 f0 f1 scope pos) 0 it acc env = turnO (lc2 elt t0 i0 t1 i1 f0 f1 scope pos) 0 t0 i0 f0 i1 it acc env := by rfl
theorem turn2_1 : compTurn (lc2 elt t0 i0 t1 i1 f0 f1 scope pos) 1 it acc env = turnL (lc2 elt t0 i0 t1 i1 f0 f1 scope pos) 1 t1 i1 elt f1 it acc env := by rfl
theorem starts2 : Starts X (lc2 elt t0 i0 t1 i1 f0 f1 scope pos) 1 := fun _ _ _ _ _ h0 h => compStart1_ok h0 h
end
end

section
open PySem PySem.Spec PyProof.Rows L2
open Evl (Ex)
theorem each_of_dqa {K : PySem.W.Frag} {H : Hp} : ∀ {vs : List V} {ds : List PyData}, DqAll K H vs ds → PySem.W.EachIs (fun v d => Dq K H v d) vs ds
  | _, _, .nil => .nil
  | _, _, .cons h t => .cons h (each_of_dqa t)
theorem dqa_of_each {K : PySem.W.Frag} {H : Hp} : ∀ {vs : List V} {ds : List PyData}, PySem.W.EachIs (fun v d => Dq K H v d) vs ds → DqAll K H vs ds
  | _, _, .nil => .nil
  | _, _, .cons h t => .cons h (dqa_of_each t)
theorem each_rel {R : V → PyData → Prop} : ∀ {vs : List V} {us : List Value} {ds : List PyData}, Vals vs us → PySem.W.EachIs R vs ds → PySem.W.EachIs (fun u d => ∃ v, RelV v u ∧ R v d) us ds
  | _, _, _, .nil, .nil => .nil
  | _, _, _, .cons r rs, .cons h t => .cons ⟨_, r, h⟩ (each_rel rs t)
theorem rel_each {R : V → PyData → Prop} : ∀ {us : List Value} {ds : List PyData}, PySem.W.EachIs (fun u d => ∃ v, RelV v u ∧ R v d) us ds → ∃ vs, Vals vs us ∧ PySem.W.EachIs R vs ds
  | _, _, .nil => ⟨[], .nil, .nil⟩
  | _, _, .cons ⟨v, r, h⟩ t => by
    obtain ⟨vs, h1, h2⟩ := rel_each t
    exact ⟨v :: vs, .cons r h1, .cons h h2⟩
abbrev dLe : PyData → PyData → Bool := PySem.W.dataLe false fun d : PyData => d
abbrev sortD (ds : List PyData) : List PyData := ds.mergeSort dLe
theorem sortD_short {ds : List PyData} (h : ds.length < 2) : sortD ds = ds := by
  match ds, h with
  | [], _ => exact List.mergeSort_nil
  | [d], _ => exact List.mergeSort_singleton d
theorem perm_short {α : Type} {out its : List α} (h : its.length < 2) (hp : out.Perm its) : out = its := by
  match its, h, hp with
  | [], _, hp => exact List.perm_nil.mp hp
  | [d], _, hp => exact List.perm_singleton.mp hp
section
open PySem.Calls PySem.W
variable {X : Cx}
def rSortedD (K : PySem.W.Frag) : List V → Hp → VK → Prop := fun vs H Q => ∃ (a : Addr) (xs : List V) (ds : List PyData) (R : V → PyData → Prop), vs = [V.ref a] ∧ SqL K H a xs ∧ EachIs R xs ds ∧ (∀ v d, R v d → L2.Dp K H v d) ∧ (∀ d ∈ ds, d.depth ≤ 8) ∧ AllAlike ds ∧ (Sortable ds ∨ ds.length < 2) ∧
  ∀ (ys : List V) (p : Addr), EachIs R ys (sortD ds) → H p = none → Q (.ref p) (upd H p (.lst ys))
theorem srt_false : SrtO.Swo (α := Value) fun _ _ => false := ⟨fun _ _ h => rfl, fun _ _ _ _ _ => rfl⟩
theorem cr_sortedD (hu : X.A.units + 64 < cLine) : CallR X (.builtin "sorted") (rSortedD X.K) := by
  intro pins s σ H vs us Q I r h
  obtain ⟨a, xs, ds, R, rfl, hs, hR, hD, hd, hal, hk, q⟩ := h
  obtain ⟨its, rv, hl, hz⟩ := I.list hs
  rw [Vals.ref1 r]
  have e := each_rel rv hR
  have fin : ∀ out : List Value, EachIs (fun u d => ∃ v, RelV v u ∧ R v d) out (sortD ds) → ∃ (v : V) (H' : Hp), Inv X pins σ H' { s with heap := PyProof.Rows.sortedAll s.heap its out.toArray } ∧ RelV v (.ref (s.heap.objs.size + 1)) ∧ Q v H' := fun out eo => by
    obtain ⟨ys, h1, h2⟩ := rel_each eo
    obtain ⟨ep, he'⟩ := PyProof.Rows.sortedAll_at s.heap its out.toArray
    have hlen : ys.length ≤ sizeLine := by
      have l1 : ys.length = (sortD ds).length := h2.length
      have l2 : xs.length = ds.length := hR.length
      rw [l1, List.length_mergeSort, ← l2]; exact hz
    exact ⟨.ref _, upd H (s.heap.objs.size + 1) (.lst ys), I.laid (t' := s.toks) (fun _ _ => PyProof.Rows.sortedAll_old) (Nat.le_succ _) ⟨hlen, out, ep, h1, he'⟩, rfl, q _ _ h2 (I.hok.fresh (Nat.le_succ _))⟩
  rcases hk with hk | hk
  · have d1 : ∀ b, b ∈ ds → X.A.units + 2 + ((fun d : PyData => d) b).depth < cLine := fun d m => by
      have h8 : d.depth ≤ 8 := hd d m
      show X.A.units + 2 + d.depth < cLine
      exact Nat.lt_of_le_of_lt (Nat.add_le_add_left h8 _) (Nat.lt_of_le_of_lt (by omega : X.A.units + 2 + 8 ≤ X.A.units + 64) hu)
    have d2 : EachIs (fun v b => ∃ as, Reads s.heap v ((fun d : PyData => d) b) as) its ds := e.mono fun u d ⟨v, rr, hh⟩ => L2.Dp.reads I d v u (hD v d hh) rr
    have d3 : AllAlike (ds.map fun d : PyData => d) := by rw [List.map_id']; exact hal
    have d4 : Sortable (ds.map fun d : PyData => d) := by rw [List.map_id']; exact hk
    have d5 : ds.length ≤ sizeLine := by rw [← hR.length]; exact hz
    refine sorted_data (enc := fun d : PyData => d) (bs := ds) hl.isList e d2 d3 d4 d5 d1 ?_
    intro out _ eo
    exact fin out eo
  · have hl2 : its.length < 2 := by rw [e.length]; exact hk
    refine SrtO.sorted_ord srt_false hl.isList (by rw [← rv.length]; exact hz) (fun h2 => absurd h2 (by omega)) fun out h1 h2 => ?_
    have : out = its := by
      have hp := h2.perm
      exact perm_short hl2 hp
    subst this
    exact fin _ (by rw [sortD_short hk]; exact e)
end
section
variable {c : Cd} {N : List Str} {sc : Scope} {k : Nat} {Γ : Gx} {M : Mem} {P : D → Mem → Prop} {a : Expr} {p pos : Pos}
theorem e_sorted (o : c.Ok N sc k) (hm : c.m.mg "sorted" = none) (hg : sc.names.lookup ("sorted" : Str) = some .globalImplicit)
    (na : starEach [a] c.X.env = (false, eval a c.X.env) :: starEach [] c.X.env) (n2 : (backTo pos (starEach [] c.X.env)).any (·.1) = false)
    (h : Ee c Γ M a fun x M1 => ∃ ds : List PyData, Rdd M1 x (.list ds) ∧ (∀ d ∈ ds, d.depth ≤ 8) ∧ PySem.W.AllAlike ds ∧ (PySem.W.Sortable ds ∨ ds.length < 2) ∧ ∀ b : Addr, P (.own b) ((b, .lst (sortD ds)) :: M1)) :
    Ee c Γ M (.Call (.Name "sorted" p) [a] [] pos) P :=
  e_of (pe_callB (cr_sortedD (by have := o.room.units; omega)) (gl_of o hg) (by rw [o.mg]; exact hm) (by decide +kernel) (pa_cons pe_sem pa_nil na) (by decide) (by decide) na n2) fun σ H H1 Q tr sl qq => h σ H H1 _ tr sl fun d M1 v H' H2 p1 t1 e1 i1 => by
    obtain ⟨ds, hx, hd, hal, hk, p⟩ := p1
    obtain ⟨b, ws, rfl, h1, h2⟩ := rd_l t1 i1 hx
    refine ⟨b, ws, ds, fun v d => Dq c.G.K H' v d, rfl, by rw [o.K]; exact h1, each_of_dqa h2, fun v d hv => by rw [o.K]; exact rd_dp t1 (d := .p d) hv (.p _), hd, hal, hk, fun ys a1 hys ha => ?_⟩
    have t2 := t1.ok.newOwn (o := .lst ys) (c := .lst (sortD ds)) ha rfl ⟨_, upd_same, dqa_of_each hys⟩
    exact qq _ _ _ _ _ (p a1) (t1.trans t2) (e1.trans t2.ex) rfl
end
end

section
open PySem PySem.Spec PyProof.Rows L2
open Evl (Ex)
section
open PySem.Calls PySem.W PySem.SeqAt
variable {prog : Program} {w : World} {A : Around} {s : Shared}
theorem call_tupLt {E : Value → Shared → Prop} {Q : Value → Shared → Prop} {l b : Addr} {items items2 : Array Value} {e r : Nat → Bool} (hl : s.heap.IsTuple l items) (hb : s.heap.IsTuple b items2)
    (he : ∀ j (h1 : j < items.size) (h2 : j < items2.size), EqAt A.in1 s items[j] items2[j] (e j)) (hr : ∀ j (h1 : j < items.size) (h2 : j < items2.size), e j = false → RcLt A.in1 s items[j] items2[j] (r j))
    (h : Q (.bool (firstLt e r (decide (items.size < items2.size)) (List.range (min items.size items2.size)))) s) : wpAny (model prog w) A (call (.builtin "tuple.__lt__") [.ref l, .ref b]) Q E s := by
  obtain ⟨⟨cls, dd, data, sl⟩, ho, hc, n, hd⟩ := id hl
  obtain ⟨⟨cls2, dd2, data2, sl2⟩, ho2, hc2, n2, hd2⟩ := id hb
  simp only at hc hd hc2 hd2
  subst hc hd hc2 hd2
  exact call_meets F.slot_tuple_lt ⟨_, ho, rfl⟩ F.entry_tuple_lt (F.args_tuple_lt_2 _ _) (tuple_ltAt l b items items2 n n2 dd dd2 sl sl2 e r) ⟨ho, ho2, he, hr, h⟩
theorem oneLt_tup {E : Value → Shared → Prop} {xs ys : List PyData} {a b : Value} {as bs : List Addr} {Q : Bool → Shared → Prop} (ra : Reads s.heap a (.tuple xs) as) (rb : Reads s.heap b (.tuple ys) bs) (h : alike (.tuple xs) (.tuple ys) = true)
    (hu : A.units + min (PyData.tuple xs).depth (PyData.tuple ys).depth < cLine) (hq : Q (dataLt (.tuple xs) (.tuple ys)) s) : wpAny (model prog w) A (oneLt' true a b) Q E s := by
  have hal : alikeAll xs ys = true := by simpa [alike] using h
  cases ra with
  | @tuple l o vs n _ as₁ h1 h2 h3 h4 =>
    cases rb with
    | @tuple l' o' vs' n' _ bs₁ k1 k2 k3 k4 =>
      have n1 : vs.size = xs.length := by simpa using ReadsAll.length _ _ _ h4
      have n2 : vs'.size = ys.length := by simpa using ReadsAll.length _ _ _ k4
      rw [dataLt_tuple, ← firstLt_toks xs ys hal, ← n1, ← n2] at hq
      rw [oneLt'_eq]
      simp only [if_true]
      refine wpAny_bind (wpAny_cRoomFor (room_here hu) ?_)
      refine wpAny_bind (wpAny_callSpecialIfBound?_slot (T := "tuple") ⟨_, h1, h2⟩ F.slot_tuple_lt (call_tupLt (e := pairEq xs ys) (r := fun j => dataLt (xs.getD j .none) (ys.getD j .none)) ⟨_, h1, h2, _, h3⟩ ⟨_, k1, k2, _, k3⟩ (fun j j1 j2 => ?_) (fun j j1 j2 hj => ?_) ?_))
      · have := eqAt_alikeAll xs ys A.in1 s vs.toList vs'.toList _ _ h4 k4 hal (room_in hu) j (by simpa using j1) (by simpa using j2)
        simpa using this
      · have := rcLt_alikeAll xs ys A.in1 s vs.toList vs'.toList _ _ h4 k4 hal (room_in hu) j (by simpa using j1) (by simpa using j2) hj
        simpa using this
      · exact wpAny_truthy_bool hq
theorem firsts_any {M : Model} {E : Value → Shared → Prop} : ∀ (vs : List Value) {Q : List (Option Value) → Shared → Prop}, (∀ v ∈ vs, ∃ (a : Addr) (xs : Array Value), v = .ref a ∧ s.heap.IsTuple a xs) → (∀ bs, Q bs s) → wpAny M A (vs.mapM firstOfTuple') Q E s
  | [], _, _, h => by rw [List.mapM_nil]; exact wpAny_pure (h _)
  | v :: vs, Q, t, h => by
    obtain ⟨a, xs, rfl, o, ho, hc, n, hd⟩ := t v List.mem_cons_self
    rw [List.mapM_cons]
    refine wpAny_bind ?_
    rw [kas_first_eq]
    refine wpAny_bind (Looks.here (show Looks M s.heap (typeOf (.ref a)) o.cls from (Looks.ld ho).andThen .now) ?_)
    rw [hc, if_neg (by first | decide | simp)]
    refine wpAny_bind (listItems_at ho hd (wpAny_pure ?_))
    exact wpAny_bind (firsts_any vs (Q := fun bs s' => wpAny M A (pure (xs[0]? :: bs)) Q E s') (fun v hv => t v (List.mem_cons_of_mem _ hv)) fun bs => wpAny_pure (h _))
theorem kind_tup0 {M : Model} {E : Value → Shared → Prop} {a0 : Addr} {vs : List Value} {Q : SortKind → Shared → Prop} (h0 : s.heap.IsTuple a0 #[]) (t : ∀ v ∈ vs, ∃ (a : Addr) (xs : Array Value), v = .ref a ∧ s.heap.IsTuple a xs) (h : Q oneType' s) :
    wpAny M A (keyKind' (Value.ref a0 :: vs).toArray) Q E s := by
  rw [kat_kind_eq, List.mapM_toArray, map_eq_pure_bind]
  obtain ⟨o, ho, hc, n, hd⟩ := h0
  have hT : ∀ v ∈ Value.ref a0 :: vs, Looks M s.heap (typeOf v) (.type "tuple") := fun v hv => by
    rcases List.mem_cons.mp hv with rfl | hv
    · exact hc ▸ ((Looks.ld ho).andThen .now : Looks M s.heap (typeOf (.ref a0)) o.cls)
    · obtain ⟨a, xs, rfl, o', ho', hc', _⟩ := t v hv
      exact hc' ▸ ((Looks.ld ho').andThen .now : Looks M s.heap (typeOf (.ref a)) o'.cls)
  refine wpAny_bind (wpAny_bind ?_)
  rw [List.mapM_cons]
  refine wpAny_bind ?_
  rw [kas_first_eq]
  refine wpAny_bind (Looks.here (show Looks M s.heap (typeOf (.ref a0)) o.cls from (Looks.ld ho).andThen .now) ?_)
  rw [hc, if_neg (by first | decide | simp)]
  refine wpAny_bind (listItems_at ho hd (wpAny_pure ?_))
  refine wpAny_bind (firsts_any vs t fun bs => wpAny_pure (wpAny_pure ?_))
  have e0 : (#[] : Array Value)[0]? = none := rfl
  rw [e0]
  have hall : (((none : Option Value) :: bs).toArray.all fun x => x.isSome) = false := by simp
  rw [if_neg (by rw [hall]; decide), if_neg (by simp)]
  rw [oneTypeOnly'_eq, List.mapM_toArray, map_eq_pure_bind]
  refine wpAny_bind (wpAny_bind (wpAny_bind (kas_mapM (r := Value.type "tuple") _ (fun v hv Q' hq => (hT v hv).here hq) (wpAny_pure ?_))))
  have hall2 : ((List.map (fun _ => Value.type "tuple") (Value.ref a0 :: vs)).toArray.all fun x => x == Value.type "tuple") = true := by
    simp only [List.all_toArray, List.all_map, List.all_eq_true]
    intro _ _
    rfl
  have h0 : (List.map (fun _ => Value.type "tuple") (Value.ref a0 :: vs)).toArray[0]? = some (Value.type "tuple") := by simp
  rw [h0]
  simp only [hall2, if_true]
  exact wpAny_pure (by simpa using wpAny_pure h)
theorem sortsAt_tup0 {vs : List Value} {ds : List PyData} (e : EachIs (fun v d => ∃ as, Reads s.heap v d as) vs (.tuple [] :: ds)) (hal : AllAlike (.tuple [] :: ds)) (ht : ∀ d ∈ ds, ∃ xs, d = .tuple xs) (hu : ∀ d, d ∈ PyData.tuple [] :: ds → A.units + d.depth < cLine) :
    SortsAt prog w A s (dataKind s.heap (.tuple [] :: ds)) vs := by
  have room : ∀ {d d' : PyData}, d ∈ PyData.tuple [] :: ds → A.units + min d.depth d'.depth < cLine := fun {d d'} hd => Nat.lt_of_le_of_lt (Nat.add_le_add_left (Nat.min_le_left _ _) _) (hu d hd)
  have ht' : ∀ d ∈ PyData.tuple [] :: ds, ∃ xs, d = .tuple xs := fun d hd => by
    rcases List.mem_cons.mp hd with rfl | hd
    · exact ⟨_, rfl⟩
    · exact ht d hd
  refine ⟨fun v hv => ?_, oneType', ?_, fun h2 E Q hq => ?_⟩
  · obtain ⟨d, hd, as, r⟩ := e.left v hv
    exact ⟨_, dataKind_some hal hd r⟩
  · intro E x y a b Q ha hb hq
    obtain ⟨d, as, hd, ra, rfl⟩ := dataKind_inv ha
    obtain ⟨d', as', hd', rb, rfl⟩ := dataKind_inv hb
    rw [keyLt'_oneType]
    have hdd := hal d hd d' hd'
    have hr := room (d' := d') hd
    obtain ⟨xs, rfl⟩ := ht' d hd
    obtain ⟨ys, rfl⟩ := ht' d' hd'
    exact oneLt_tup ra rb hdd hr hq
  · cases e with
    | cons h1 t =>
      obtain ⟨as, r⟩ := h1
      cases r with
      | @tuple a o xs n _ _ ho hc hd hr =>
        have hxs : xs = #[] := by
          have : xs.toList.length = 0 := by simpa using ReadsAll.length _ _ _ hr
          simpa using this
        subst hxs
        refine kind_tup0 ⟨o, ho, hc, n, hd⟩ (fun v hv => ?_) hq
        obtain ⟨d, hd, as, r⟩ := t.left v hv
        obtain ⟨xs, rfl⟩ := ht d hd
        cases r with
        | @tuple a o xs n _ _ ho hc hd hr => exact ⟨a, xs, rfl, o, ho, hc, n, hd⟩
theorem sorted_tup0 {E : Value → Shared → Prop} {R : Value → PyData → Prop} {vs : List Value} {ds : List PyData} {l : Addr} {Q : Value → Shared → Prop} (hl : s.heap.IsList l vs.toArray) (e : EachIs R vs (.tuple [] :: ds)) (er : EachIs (fun v d => ∃ as, Reads s.heap v d as) vs (.tuple [] :: ds)) (hal : AllAlike (.tuple [] :: ds)) (ht : ∀ d ∈ ds, ∃ xs, d = .tuple xs)
    (hL : (PyData.tuple [] :: ds).length ≤ sizeLine) (hu : ∀ b, b ∈ PyData.tuple [] :: ds → A.units + 2 + b.depth < cLine) (h : ∀ out, out.length = (PyData.tuple [] :: ds).length → EachIs R out ((PyData.tuple [] :: ds).mergeSort dLe) → Q (.ref (s.heap.objs.size + 1)) { s with heap := sortedAll s.heap vs (List.toArray out) }) :
    wpAny (model prog w) A (call (.builtin "sorted") [.ref l]) Q E s := by
  have er' : EachIs (fun v d => ∃ as, Reads (sortingHeap (copyHeap s.heap vs) (s.heap.objs.size + 1) vs) v d as) vs (.tuple [] :: ds) := er.mono fun _ _ ⟨as, r⟩ => ⟨as, PyProof.Rows.Reads.keeps (fun _ _ => sorting_copy_old) r⟩
  have sv := sortVals_data (enc := fun d : PyData => d) (h' := sortingHeap (copyHeap s.heap vs) (s.heap.objs.size + 1) vs) false e er' (by rw [List.map_id']; exact hal)
  rw [List.map_id'] at sv
  exact sorted_vals hl (sortsAt_tup0 (s := { s with heap := sortingHeap (copyHeap s.heap vs) (s.heap.objs.size + 1) vs }) er' hal ht hu) (by rw [e.length]; exact hL)
    (h _ (by rw [sortVals_length false rfl]; exact e.length) sv)
end
end

section
open PySem PySem.Spec PyProof.Rows L2
open Evl (Ex)
theorem alike_sD (x y : List Int) : PySem.W.alike (sD x) (sD y) = true := by
  show PySem.W.alike (.tuple (x.map .int)) (.tuple (y.map .int)) = true
  simp only [PySem.W.alike]
  exact PySem.W.alike_ints x y
theorem alikeAll_sD : ∀ x y : List (List Int), PySem.W.alikeAll (x.map sD) (y.map sD) = true
  | [], _ => by simp [PySem.W.alikeAll]
  | _ :: _, [] => by simp [PySem.W.alikeAll]
  | x :: xs, y :: ys => by
    show PySem.W.alikeAll (sD x :: xs.map sD) (sD y :: ys.map sD) = true
    rw [PySem.W.alikeAll, alikeAll_sD xs ys, alike_sD]; rfl
theorem alike_ssD (x y : List (List Int)) : PySem.W.alike (ssD x) (ssD y) = true := by
  show PySem.W.alike (.tuple (x.map sD)) (.tuple (y.map sD)) = true
  simp only [PySem.W.alike]
  exact alikeAll_sD x y
theorem lt_sD (x y : List Int) : PySem.W.dataLt (sD x) (sD y) = decide (x < y) := by
  show PySem.W.dataLt (.tuple (x.map .int)) (.tuple (y.map .int)) = _
  rw [PySem.W.dataLt_tuple]
  exact PySem.W.dataLt_ints x y
theorem eqv_sD (x y : List Int) : (PyData.eqv (sD x) (sD y) = true) ↔ x = y := by
  have : PyData.eqv (sC.d x) (sC.d y) = decide (x = y) := sC.eqv x y
  rw [show PyData.eqv (sD x) (sD y) = decide (x = y) from this, decide_eq_true_iff]
theorem rowLt_sD : ∀ x y : List (List Int), PySem.W.rowLt (x.map sD) (y.map sD) = decide (x < y)
  | [], [] => by
    have e : PySem.W.rowLt [] [] = false := PyProof.Rows.lex_irrefl _
    simp [e]
  | [], y :: ys => by
    have e : PySem.W.rowLt [] (sD y :: ys.map sD) = true := by
      unfold PySem.W.rowLt
      rw [PySem.W.toks_all_cons]
      simp only [PySem.W.keyToksAll]
      rw [PyProof.Rows.lex_diff (O := PyProof.Rows.itemOrd) (by simp)]
      rfl
    simpa using e
  | x :: xs, [] => by
    have e : PySem.W.rowLt (sD x :: xs.map sD) [] = false := by
      unfold PySem.W.rowLt
      rw [PySem.W.toks_all_cons]
      simp only [PySem.W.keyToksAll]
      rw [PyProof.Rows.lex_diff (O := PyProof.Rows.itemOrd) (by simp)]
      rfl
    simpa using e
  | x :: xs, y :: ys => by
    have e : PySem.W.rowLt (sD x :: xs.map sD) (sD y :: ys.map sD) = if x = y then PySem.W.rowLt (xs.map sD) (ys.map sD) else decide (x < y) := by
      unfold PySem.W.rowLt
      rw [PySem.W.dataLt_cons (alike_sD x y), lt_sD]
      simp only [eqv_sD]
    show PySem.W.rowLt (sD x :: xs.map sD) (sD y :: ys.map sD) = _
    rw [e]
    by_cases h : x = y
    · rw [if_pos h, rowLt_sD xs ys]
      simp [h, List.cons_lt_cons_iff]
    · rw [if_neg h]
      simp [h, List.cons_lt_cons_iff]
theorem lt_ssD (x y : List (List Int)) : PySem.W.dataLt (ssD x) (ssD y) = decide (x < y) := by
  show PySem.W.dataLt (.tuple (x.map sD)) (.tuple (y.map sD)) = _
  rw [PySem.W.dataLt_tuple]
  exact rowLt_sD x y
theorem dLe_sD (x y : List Int) : dLe (sD x) (sD y) = decide (x ≤ y) := by
  show (!PySem.W.dataLt (sD y) (sD x)) = _
  rw [lt_sD]
  by_cases h : y < x
  · have h' : ¬ x ≤ y := fun r => List.not_lt.mpr r h
    simp [h, h']
  · have h' : x ≤ y := List.not_lt.mp h
    simp [h, h']
theorem dLe_ssD (x y : List (List Int)) : dLe (ssD x) (ssD y) = decide (x ≤ y) := by
  show (!PySem.W.dataLt (ssD y) (ssD x)) = _
  rw [lt_ssD]
  by_cases h : y < x
  · have h' : ¬ x ≤ y := fun r => List.not_lt.mpr r h
    simp [h, h']
  · have h' : x ≤ y := List.not_lt.mp h
    simp [h, h']
def sortS (xs : List (List Int)) : List (List Int) := xs.mergeSort fun a b => decide (a ≤ b)
def sortR (xs : List (List (List Int))) : List (List (List Int)) := xs.mergeSort fun a b => decide (a ≤ b)
theorem sortD_sD (xs : List (List Int)) : sortD (xs.map sD) = (sortS xs).map sD :=
  (List.map_mergeSort fun a _ b _ => (dLe_sD a b).symm).symm
theorem sortD_ssD (xs : List (List (List Int))) : sortD (xs.map ssD) = (sortR xs).map ssD :=
  (List.map_mergeSort fun a _ b _ => (dLe_ssD a b).symm).symm
theorem sortS_pw (xs : List (List Int)) : (sortS xs).Pairwise (· ≤ ·) :=
  (List.pairwise_mergeSort (le := fun a b : List Int => decide (a ≤ b)) (fun a b c h1 h2 => decide_eq_true (List.le_trans (of_decide_eq_true h1) (of_decide_eq_true h2))) (fun a b => by
    rcases List.le_total a b with h | h
    · simp [h]
    · simp [h]) xs).imp fun h => of_decide_eq_true h
theorem sortR_pw (xs : List (List (List Int))) : (sortR xs).Pairwise (· ≤ ·) :=
  (List.pairwise_mergeSort (le := fun a b : List (List Int) => decide (a ≤ b)) (fun a b c h1 h2 => decide_eq_true (List.le_trans (of_decide_eq_true h1) (of_decide_eq_true h2))) (fun a b => by
    rcases List.le_total a b with h | h
    · simp [h]
    · simp [h]) xs).imp fun h => of_decide_eq_true h
theorem sortS_perm (xs : List (List Int)) : (sortS xs).Perm xs := List.mergeSort_perm _ _
theorem sortR_perm (xs : List (List (List Int))) : (sortR xs).Perm xs := List.mergeSort_perm _ _
theorem sortR_uniq {xs ys : List (List (List Int))} (h : xs.Pairwise (· ≤ ·)) (hp : xs.Perm ys) : xs = sortR ys :=
  List.Perm.eq_of_pairwise (le := (· ≤ ·)) (fun a b _ _ h1 h2 => List.le_antisymm h1 h2) h (sortR_pw ys) (hp.trans (sortR_perm ys).symm)
theorem sortR_filter {X Y : List (List (List Int))} (p : List (List Int) → Bool) (h : X.Perm Y) : (sortR X).filter p = sortR (Y.filter p) :=
  sortR_uniq ((sortR_pw X).filter p) (((sortR_perm X).trans h).filter p)
theorem single_le {a b : List Int} (h : a ≤ b) : [a] ≤ [b] := by
  rw [← List.not_lt]
  intro z
  rw [List.cons_lt_cons_iff] at z
  rcases z with z | ⟨_, z⟩
  · exact List.not_lt.mpr h z
  · exact absurd z (List.not_lt_nil _)
theorem sortS_one (xs : List (List Int)) : (sortS xs).map (fun s => [s]) = sortR (xs.map fun s => [s]) :=
  sortR_uniq (List.pairwise_map.mpr ((sortS_pw xs).imp single_le)) ((sortS_perm xs).map _)
theorem sortR_short {xs : List (List (List Int))} (h : xs.length < 2) : sortR xs = xs :=
  (sortR_uniq (by
    match xs, h with
    | [], _ => exact List.Pairwise.nil
    | [_], _ => exact List.pairwise_singleton _ _) (List.Perm.refl _)).symm
theorem dep_sD (s : List Int) : (sD s).depth ≤ 1 := (dep_ints s).2
theorem sortable_sD {xs : List (List Int)} (h : ∀ s ∈ xs, s ≠ []) : PySem.W.Sortable (xs.map sD) := .inl fun d hd => by
  obtain ⟨s, hs, rfl⟩ := List.mem_map.mp hd
  match s, h s hs with
  | x :: r, _ => exact ⟨_, _, rfl⟩
theorem sortable_ssD {xs : List (List (List Int))} (h : ∀ s ∈ xs, s ≠ []) : PySem.W.Sortable (xs.map ssD) := .inl fun d hd => by
  obtain ⟨s, hs, rfl⟩ := List.mem_map.mp hd
  match s, h s hs with
  | x :: r, _ => exact ⟨_, _, rfl⟩
theorem allAlike_sD (xs : List (List Int)) : PySem.W.AllAlike (xs.map sD) := PySem.W.AllAlike.of alike_sD
theorem allAlike_ssD (xs : List (List (List Int))) : PySem.W.AllAlike (xs.map ssD) := PySem.W.AllAlike.of alike_ssD
end

section
open PySem PySem.Spec PyProof.Rows L2
open Evl (Ex)
theorem flat_snocV {α β : Type} {f : α → List β} {s : List α} {i : Nat} (hi : i < s.length) : (s.take (i + 1)).flatMap f = (s.take i).flatMap f ++ f s[i] := by
  rw [List.take_succ_eq_append_getElem hi, List.flatMap_append]; simp
theorem flat_takeV {α β : Type} {f : α → List β} (s : List α) (i : Nat) : ((s.take i).flatMap f).length ≤ (s.flatMap f).length := by
  conv => rhs; rw [← List.take_append_drop i s, List.flatMap_append, List.length_append]
  omega
theorem getD_atV {α : Type} {xs : List α} {i : Nat} {d : α} (h : i < xs.length) : xs.getD i d = xs[i] := by
  rw [List.getD_eq_getElem?_getD, List.getElem?_eq_getElem h]; rfl
theorem allP_app : ∀ ps : List PyData, allP (ps.map D.p ++ []) = some ps
  | [] => rfl
  | p :: ps => by
    show (allP (ps.map D.p ++ [])).map (p :: ·) = _
    rw [allP_app ps]; rfl
def bothW (x : Int) (r : List Int) : List (List Int) := [x :: r, -x :: r]
def rowsN : Nat → List Int → List (List Int)
  | 0, ns => if ns = [] then [[]] else []
  | d + 1, ns => if ns = [] then [[]] else ns.flatMap fun x => (rowsN d (ns.filter fun y => decide (y ≠ x))).flatMap (bothW x)
def capN : Nat → Nat
  | 0 => 1
  | d + 1 => (d + 1) * (2 * capN d) + 1
theorem flat_lenV {α β : Type} {f : α → List β} {n : Nat} : ∀ xs : List α, (∀ x ∈ xs, (f x).length ≤ n) → (xs.flatMap f).length ≤ xs.length * n
  | [], _ => by simp
  | x :: xs, h => by
    rw [List.flatMap_cons, List.length_append, List.length_cons, Nat.succ_mul]
    have := h x (by simp)
    have := flat_lenV xs fun y hy => h y (List.mem_cons_of_mem _ hy)
    omega
theorem filt_lt {ns : List Int} {x : Int} (h : x ∈ ns) : (ns.filter fun y => decide (y ≠ x)).length < ns.length :=
  List.length_filter_lt_length_iff_exists.mpr ⟨x, h, by simp⟩
theorem rowsN_few : ∀ (d : Nat) (ns : List Int), ns.length ≤ d → (rowsN d ns).length ≤ capN d
  | 0, ns, h => by unfold rowsN capN; split <;> simp
  | d + 1, ns, h => by
    unfold rowsN capN
    split
    · simp
    · have : (ns.flatMap fun x => (rowsN d (ns.filter fun y => decide (y ≠ x))).flatMap (bothW x)).length ≤ ns.length * (2 * capN d) := flat_lenV _ fun x hx => by
        have h1 := rowsN_few d (ns.filter fun y => decide (y ≠ x)) (by have := filt_lt hx; omega)
        have h2 : ((rowsN d (ns.filter fun y => decide (y ≠ x))).flatMap (bothW x)).length ≤ (rowsN d (ns.filter fun y => decide (y ≠ x))).length * 2 := flat_lenV _ fun r _ => by simp [bothW]
        omega
      have h3 := Nat.mul_le_mul_right (2 * capN d) h
      omega
theorem capN_few {d : Nat} (h : d ≤ 3) : capN d ≤ 79 := by
  rcases (by omega : d = 0 ∨ d = 1 ∨ d = 2 ∨ d = 3) with rfl | rfl | rfl | rfl <;> decide
theorem rowsN_len : ∀ (d : Nat) (ns : List Int), ∀ s ∈ rowsN d ns, s.length ≤ d
  | 0, ns, s, h => by
    unfold rowsN at h
    split at h
    · rw [List.mem_singleton.mp h]; exact Nat.le_refl 0
    · cases h
  | d + 1, ns, s, h => by
    unfold rowsN at h
    split at h
    · rw [List.mem_singleton.mp h]; exact Nat.zero_le _
    · obtain ⟨x, _, h⟩ := List.mem_flatMap.mp h
      obtain ⟨r, hr, h⟩ := List.mem_flatMap.mp h
      have := rowsN_len d _ r hr
      simp only [bothW, List.mem_cons, List.not_mem_nil, or_false] at h
      rcases h with rfl | rfl <;> (rw [List.length_cons]; omega)
theorem allP_one {q : Int} {r : List Int} : allP (dI q :: ((r.map PyData.int).map D.p ++ [])) = some (.int q :: r.map PyData.int) := by
  show (allP ((r.map PyData.int).map D.p ++ [])).map _ = _
  rw [allP_app]; rfl
def phRows (d : Nat) : Phi := fun ds M P _ => ∃ (x : D) (ns : List Int), ds = [x] ∧ Rdd M x (.list (ns.map .int)) ∧ ns.length ≤ d ∧ ∀ a, P (.own a) ((a, .lst ((rowsN d ns).map sD)) :: M)
theorem Rdd.consV {M : Mem} {x : D} {e : PyData} {c : Addr × Cell} (h : Rdd M x e) : Rdd (c :: M) x e := by
  cases h with
  | p => exact .p _
  | scp => exact .scp _
  | own h => exact .own (List.mem_cons_of_mem _ h)
theorem ok_rowsOf {m : Md} {f : Addr} {fd : FuncData} {k d : Nat} (F : Fun m.K "rows_of" "rows_of" S_rows_of f fd) (F1 : ∀ d', d = d' + 1 → Fd m CX0 k "rows_of" (phRows d')) (hd3 : d ≤ 3) :
    FnOk m.P m.w m.K m.mg m.base CX0 (k + 1) f fd A_rows_of (spOf m.G (phRows d)) := by
  refine fn_ok F sc_rows_of (fun ds M P R h => by obtain ⟨x, ns, rfl, _⟩ := h; rfl) (fun c ds M P R hc o hl h => ?_)
  subst hc
  obtain ⟨x, ns, rfl, hx, hnd, p⟩ := h
  show Eb c [some x, none, none, none, none, none] M _ _
  refine sq_ret ?_
  refine b_cons' (by rfl) ?_
  repeat walk_at "x"
  refine e_lst ?_
  repeat walk_at "x"
  refine oe_c (lC iC) ns [] hx (.p _) rfl ?_
  refine ⟨_, rfl, fun hz => ?_, fun hz => ?_⟩
  · have hz : ns = [] := of_decide_eq_true hz
    have hr : rowsN d ns = [[]] := by
      cases d <;> (unfold rowsN; rw [if_pos hz])
    rw [hr] at p
    repeat walk_at "x"
    refine e_lstO ?_
    repeat walk_at "x"
    exact fun a => ⟨_, Conv.refl, p a⟩
  have hz : ns ≠ [] := of_decide_eq_false hz
  have hpos := List.length_pos_iff.mpr hz
  obtain ⟨d', rfl⟩ : ∃ d', d = d' + 1 := ⟨d - 1, by omega⟩
  have hF1 := F1 d' rfl
  have hr : rowsN (d' + 1) ns = ns.flatMap fun x => (rowsN d' (ns.filter fun y => decide (y ≠ x))).flatMap (bothW x) := by
    rw [rowsN, if_neg hz]
  rw [hr] at p
  repeat walk_at "x"
  refine e_lstO ?_
  repeat walk_at "x"
  intro f0
  have hcap : (ns.flatMap fun x => (rowsN d' (ns.filter fun y => decide (y ≠ x))).flatMap (bothW x)).length ≤ 79 := by
    have := rowsN_few (d' + 1) ns hnd
    rw [hr] at this
    exact Nat.le_trans this (capN_few hd3)
  repeat walk_at "x"
  refine i_list o ?_
  repeat walk_at "x"
  refine ⟨_, hx.consV, ?_⟩
  rw [List.length_map]
  refine ⟨fun i Γ' M' => ∃ b y2 y3 y4 y5, Γ' = [some x, some (.own b), y2, y3, y4, y5] ∧ M' = (b, Cell.lst (((ns.take i).flatMap fun x => (rowsN d' (ns.filter fun y => decide (y ≠ x))).flatMap (bothW x)).map sD)) :: M, ⟨f0, _, _, _, _, rfl, rfl⟩, fun i Γ' M' _ hj => ?_, fun i Γ' M' hi hj => ?_, fun Γ' M' hj => ?_⟩
  · obtain ⟨b, y2, y3, y4, y5, rfl, rfl⟩ := hj
    exact hx.consV
  · obtain ⟨b, y2, y3, y4, y5, rfl, rfl⟩ := hj
    have hsn := flat_snocV (f := fun x => (rowsN d' (ns.filter fun y => decide (y ≠ x))).flatMap (bothW x)) hi
    have hb1 := Nat.le_trans (flat_takeV (f := fun x => (rowsN d' (ns.filter fun y => decide (y ≠ x))).flatMap (bothW x)) ns (i + 1)) hcap
    have hmem : ns[i] ∈ ns := List.getElem_mem hi
    dsimp only
    rw [getD_map hi]
    rw [hsn, List.length_append] at hb1
    generalize ns[i] = q at hsn hb1 hmem
    repeat walk_at "x"
    refine s_setLcF [("one", 4)] o rfl rfl (fun _ => rfl) rfl rfl rfl ?_
    refine i_list o ?_
    repeat walk_at "x"
    refine ⟨_, hx.consV, ?_⟩
    rw [List.length_map]
    refine ⟨fun j => decide (ns.getD j 0 ≠ q), fun j => .int (ns.getD j 0), by omega, fun acc a2 => hx.consV.consV, fun j acc a2 hj X1 o1 => ?_, fun a2 => ?_⟩
    · dsimp only
      rw [getD_map hj, List.getD_eq_getElem?_getD, List.getElem?_eq_getElem hj]
      generalize ns[j] = e
      simp only [Option.getD_some]
      repeat walk_at "x"
      intro X2 o2
      repeat walk_at "x"
      refine ⟨by simp, rfl, fun hz X3 o3 => ?_⟩
      repeat walk_at "x"
      exact ⟨rfl, rfl⟩
    rw [range_fm (xs := ns) (p := fun y => decide (y ≠ q)) (f := PyData.int) (fun j hj => by rw [getD_atV hj]) (fun j hj => by rw [getD_atV hj])]
    repeat walk_at "x"
    refine i_list o ?_
    repeat walk_at "x"
    refine ⟨_, ns.filter fun y => decide (y ≠ q), rfl, .own (.head _), by have := filt_lt hmem; omega, fun b2 => ?_⟩
    refine ⟨_, .own (.head _), ?_⟩
    rw [List.length_map]
    generalize (List.flatMap (fun x => List.flatMap (bothW x) (rowsN d' (List.filter (fun y => decide (y ≠ x)) ns))) (List.take i ns)) = FL at hsn hb1 ⊢
    have hRl := rowsN_len d' (List.filter (fun y => decide (y ≠ q)) ns)
    generalize rowsN d' (List.filter (fun y => decide (y ≠ q)) ns) = R at hsn hb1 hRl ⊢
    refine ⟨fun j Γ' M' => ∃ y4 y5, Γ' = [some x, some (.own b), some (dI q), some (.own a2), y4, y5] ∧ M' = (b2, Cell.lst (R.map sD)) :: (a2, Cell.lst ((ns.filter fun y => decide (y ≠ q)).map .int)) :: (b, Cell.lst ((FL ++ (R.take j).flatMap (bothW q)).map sD)) :: M, ⟨_, _, rfl, by simp⟩, fun j Γ' M' _ hj => ?_, fun j Γ' M' hj1 hj => ?_, fun Γ' M' hj => ?_⟩
    · obtain ⟨y4, y5, rfl, rfl⟩ := hj
      exact .own (.head _)
    · obtain ⟨y4, y5, rfl, rfl⟩ := hj
      have hs2 := flat_snocV (f := bothW q) hj1
      have hb2 := flat_takeV (f := bothW q) R j
      dsimp only
      rw [getD_map hj1]
      have hrl := hRl _ (List.getElem_mem hj1)
      generalize R[j] = r at hs2 hrl
      repeat walk_at "x"
      refine ⟨b, _, rfl, .tail _ (.tail _ (.head _)), ?_⟩
      refine e_lst ?_
      repeat walk_at "x"
      refine ⟨_, .inr rfl, ?_⟩
      repeat walk_at "x"
      refine ⟨_, allP_one, Nat.ble_eq_true_of_le (by rw [List.length_cons, List.length_map]; omega), ?_⟩
      repeat walk_at "x"
      refine ⟨_, .inr rfl, ?_⟩
      repeat walk_at "x"
      refine ⟨_, allP_one, Nat.ble_eq_true_of_le (by rw [List.length_cons, List.length_map]; omega), ?_⟩
      repeat walk_at "x"
      refine ⟨2, _, _, rfl, .p _, by simp only [List.length_map, List.length_append, List.length_cons, List.length_nil]; omega, ?_⟩
      repeat walk_at "x"
      refine ⟨_, _, rfl, ?_⟩
      rw [hs2, ← List.append_assoc]
      simp only [List.map_append]
      rfl
    · obtain ⟨y4, y5, rfl, rfl⟩ := hj
      rw [List.take_length, ← hsn]
      refine sq_conv (Conv.sub (.cons _ (.cons _ (.refl _)))) ?_
      repeat walk_at "x"
      exact ⟨b, _, _, _, _, rfl, rfl⟩
  · obtain ⟨b, y2, y3, y4, y5, rfl, rfl⟩ := hj
    rw [List.take_length]
    repeat walk_at "x"
    exact ⟨_, Conv.refl, p b⟩
end

section
open PySem PySem.Spec PyProof.Rows L2
open Evl (Ex)
local macro_rules | `(tactic| walk_at "x") => `(tactic| ((with_reducible refine' e_sorted (by assumption) ?a ?b ?c ?d ?_); (case a => assumption); (case b => rfl); (case c => rfl); (case d => rfl)))
def upTo (w : Nat) : List Int := rgI 1 ((w : Int) + 1)
instance stepDec (s : List Int) : Decidable (StepOk s) := by unfold StepOk; infer_instance
def allS (w : Nat) : List (List Int) := sortS (rowsN 3 (upTo w))
theorem upTo_len (w : Nat) : (upTo w).length = w := by unfold upTo rgI; rw [List.length_map, List.length_range]; omega
theorem rows_ok {w : Nat} (h1 : 1 ≤ w) (h2 : w ≤ 3) : ∀ s ∈ rowsN 3 (upTo w), StepOk s ∧ s.length = w := by
  rcases (by omega : w = 1 ∨ w = 2 ∨ w = 3) with rfl | rfl | rfl <;> decide +kernel
theorem allS_ok {w : Nat} (h1 : 1 ≤ w) (h2 : w ≤ 3) {s : List Int} (h : s ∈ allS w) : StepOk s ∧ s.length = w :=
  rows_ok h1 h2 s ((sortS_perm _).mem_iff.mp h)
theorem allS_len {w : Nat} (h2 : w ≤ 3) : (allS w).length ≤ 79 := by
  rw [allS, (sortS_perm _).length_eq]
  exact Nat.le_trans (rowsN_few 3 _ (by rw [upTo_len]; exact h2)) (capN_few (Nat.le_refl 3))
def phSteps : Phi := fun ds M P _ => ∃ w : Nat, ds = [dI w] ∧ (1 ≤ w ∧ w ≤ 3) ∧ ∀ a, P (.own a) ((a, .lst ((allS w).map sD)) :: M)
theorem ok_allSteps {m : Md} {f : Addr} {fd : FuncData} {k : Nat} (F : Fun m.K "all_steps" "all_steps" S_all_steps f fd) (F1 : Fd m CX0 k "rows_of" (phRows 3)) (m1 : m.mg "sorted" = none) (m2 : m.mg "list" = none) (m3 : m.mg "range" = none) :
    FnOk m.P m.w m.K m.mg m.base CX0 (k + 1) f fd A_all_steps (spOf m.G phSteps) := by
  refine fn_ok F sc_all_steps (fun ds M P R h => by obtain ⟨w, rfl, _⟩ := h; rfl) (fun c ds M P R hc o hl h => ?_)
  subst hc
  obtain ⟨w, rfl, ⟨h1, h2⟩, p⟩ := h
  show Eb c [some (dI w)] M _ _
  refine sq_ret ?_
  refine b_cons' (by rfl) ?_
  repeat walk_at "x"
  refine ⟨_, _, rfl, rfl, ⟨by omega, by omega⟩, ⟨by decide, by decide⟩, fun a => ?_⟩
  repeat walk_at "x"
  refine ⟨_, upTo w, rfl, .own (.head _), by rw [upTo_len]; exact h2, fun a2 => ?_⟩
  refine ⟨_, .own (.head _), fun d hd => ?_, allAlike_sD _, .inl (sortable_sD fun s hs => ?_), fun b => ?_⟩
  · obtain ⟨s, _, rfl⟩ := List.mem_map.mp hd
    exact Nat.le_trans (dep_sD s) (by decide)
  · have := (rows_ok h1 h2 s hs).1.1
    intro z; rw [z] at this; exact absurd this (by decide)
  · rw [sortD_sD]
    exact ⟨_, Conv.sub (.cons_cons _ (.cons _ (.cons _ (.refl _)))), p b⟩
end

section
open PySem PySem.Spec PyProof.Rows L2
open Evl (Ex)
def insB (x : Int) (r : List Int) (t : Nat) : List (List Int) := [r.take t ++ [x] ++ r.drop t, r.take t ++ [-x] ++ r.drop t]
def lawN : Nat → List (List Int)
  | 0 => [[]]
  | n + 1 => (lawN n).flatMap fun r => (List.range (r.length + 1)).flatMap (insB ((n : Int) + 1) r)
theorem lawN_len : ∀ n, ∀ r ∈ lawN n, r.length = n
  | 0, r, h => by rw [List.mem_singleton.mp h]; rfl
  | n + 1, r, h => by
    obtain ⟨q, hq, h⟩ := List.mem_flatMap.mp h
    obtain ⟨t, ht, h⟩ := List.mem_flatMap.mp h
    have hl := lawN_len n q hq
    have ht := List.mem_range.mp ht
    simp only [insB, List.mem_cons, List.not_mem_nil, or_false] at h
    rcases h with rfl | rfl <;> (simp only [List.length_append, List.length_take, List.length_drop, List.length_cons, List.length_nil]; omega)
theorem lawN_few {n : Nat} (h : n ≤ 3) : (lawN n).length ≤ 48 := by
  rcases (by omega : n = 0 ∨ n = 1 ∨ n = 2 ∨ n = 3) with rfl | rfl | rfl | rfl <;> decide
theorem lawN_perm {n : Nat} (h1 : 1 ≤ n) (h : n ≤ 3) : (lawN n).Perm (rowsN 3 (upTo n)) := by
  rcases (by omega : n = 1 ∨ n = 2 ∨ n = 3) with rfl | rfl | rfl <;> decide +kernel
end

section
open PySem PySem.Spec PyProof.Rows L2
open Evl (Ex)
abbrev near3 : List Int := [-3, -2, -1, 0, 1, 2, 3]
theorem near_mem {s : List Int} (h : StepOk s) {a : Int} (ha : a ∈ s) : a ∈ near3 := by
  have h1 : a.natAbs ∈ (List.range s.length).map (· + 1) := h.2.2.mem_iff.mp (List.mem_map.mpr ⟨a, ha, rfl⟩)
  obtain ⟨i, hi, e⟩ := List.mem_map.mp h1
  have hi := List.mem_range.mp hi
  have h3 := h.2.1
  have hb : a.natAbs ≤ 3 := by omega
  have : a = -3 ∨ a = -2 ∨ a = -1 ∨ a = 0 ∨ a = 1 ∨ a = 2 ∨ a = 3 := by omega
  simpa [near3] using this
theorem all1 : ∀ a ∈ near3, StepOk [a] → [a] ∈ lawN 1 := by decide +kernel
theorem all2 : ∀ a ∈ near3, ∀ b ∈ near3, StepOk [a, b] → [a, b] ∈ lawN 2 := by decide +kernel
theorem all3 : ∀ a ∈ near3, ∀ b ∈ near3, ∀ c ∈ near3, StepOk [a, b, c] → [a, b, c] ∈ lawN 3 := by decide +kernel
theorem step_mem {s : List Int} (h : StepOk s) : s ∈ lawN s.length := by
  have h1 := h.1
  have h3 := h.2.1
  have hn := fun a => near_mem h (a := a)
  match s with
  | [] => exact absurd h1 (by decide)
  | [a] => exact all1 a (hn a (by simp)) h
  | [a, b] => exact all2 a (hn a (by simp)) b (hn b (by simp)) h
  | [a, b, c] => exact all3 a (hn a (by simp)) b (hn b (by simp)) c (hn c (by simp)) h
  | _ :: _ :: _ :: _ :: _ => exact absurd h3 (by simp only [List.length_cons]; omega)
theorem lawN_ok {n : Nat} (h1 : 1 ≤ n) (h2 : n ≤ 3) {s : List Int} (h : s ∈ lawN n) : StepOk s ∧ s.length = n :=
  rows_ok h1 h2 s ((lawN_perm h1 h2).mem_iff.mp h)
theorem perm_flat {α β : Type} {f g : α → List β} : ∀ l : List α, (∀ a ∈ l, (f a).Perm (g a)) → (l.flatMap f).Perm (l.flatMap g)
  | [], _ => .refl _
  | a :: l, h => by
    rw [List.flatMap_cons, List.flatMap_cons]
    exact (h a (by simp)).append (perm_flat l fun b hb => h b (List.mem_cons_of_mem _ hb))
def pairsL (f : Nat → List (List Int)) (w : Nat) : List (List (List Int)) :=
  ([1, 2, 3].filter fun a => decide (w % a = 0) && decide (w / a ≤ 3)).flatMap fun a => (f a).flatMap fun x => (f (w / a)).map fun y => [x, y]
theorem allS_perm {n : Nat} (h1 : 1 ≤ n) (h2 : n ≤ 3) : (allS n).Perm (lawN n) := (sortS_perm _).trans (lawN_perm h1 h2).symm
theorem pairs_perm {w : Nat} (hw : 1 ≤ w) : (pairsL allS w).Perm (pairsL lawN w) := by
  unfold pairsL
  refine perm_flat _ fun a ha => ?_
  obtain ⟨h1, h2⟩ := List.mem_filter.mp ha
  rw [Bool.and_eq_true, decide_eq_true_iff, decide_eq_true_iff] at h2
  have ha3 : 1 ≤ a ∧ a ≤ 3 := by
    simp only [List.mem_cons, List.not_mem_nil, or_false] at h1
    omega
  have hd : 1 ≤ w / a := by
    have := Nat.div_add_mod w a
    rcases Nat.eq_zero_or_pos (w / a) with z | z
    · rw [z, h2.1] at this; omega
    · exact z
  refine List.Perm.trans (perm_flat _ fun x _ => (allS_perm hd h2.2).map _) ?_
  exact (allS_perm ha3.1 ha3.2).flatMap_right _
end

section
open PySem PySem.Spec PyProof.Rows L2
open Evl (Ex)
local macro_rules | `(tactic| walk_at "x") => `(tactic| ((with_reducible refine' e_sorted (by assumption) ?a ?b ?c ?d ?_); (case a => assumption); (case b => rfl); (case c => rfl); (case d => rfl)))
def szs (w : Nat) : List Nat := [1, 2, 3].filter fun a => decide (w % a = 0) && decide (w / a ≤ 3)
def candL (w : Nat) : Nat → List (List (List Int))
  | 0 => if w = 1 then [[]] else []
  | 1 => if w ≤ 3 then (allS w).map fun s => [s] else []
  | _ => sortR (pairsL allS w)
theorem szs_mem {w a : Nat} (hw : 1 ≤ w) (h : a ∈ szs w) : (1 ≤ a ∧ a ≤ 3) ∧ 1 ≤ w / a ∧ w / a ≤ 3 := by
  obtain ⟨h1, h2⟩ := List.mem_filter.mp h
  rw [Bool.and_eq_true, decide_eq_true_iff, decide_eq_true_iff] at h2
  have ha3 : 1 ≤ a ∧ a ≤ 3 := by
    simp only [List.mem_cons, List.not_mem_nil, or_false] at h1
    omega
  refine ⟨ha3, ?_, h2.2⟩
  have := Nat.div_add_mod w a
  rcases Nat.eq_zero_or_pos (w / a) with z | z
  · rw [z, h2.1] at this; omega
  · exact z
theorem allS_48 {n : Nat} (h1 : 1 ≤ n) (h2 : n ≤ 3) : (allS n).length ≤ 48 := by rw [(allS_perm h1 h2).length_eq]; exact lawN_few h2
theorem pairs_len {w : Nat} (hw : 1 ≤ w) : (pairsL allS w).length ≤ 6912 := by
  have h1 : (pairsL allS w).length ≤ (szs w).length * 2304 := flat_lenV _ fun a ha => by
    obtain ⟨⟨a1, a2⟩, a3, a4⟩ := szs_mem hw ha
    have h2 : ((allS a).flatMap fun x => (allS (w / a)).map fun y => [x, y]).length ≤ (allS a).length * 48 := flat_lenV _ fun x _ => by
      rw [List.length_map]; exact allS_48 a3 a4
    have := allS_48 a1 a2
    omega
  have h2 : (szs w).length ≤ 3 := List.length_filter_le _ _
  omega
theorem pairs_ok {w : Nat} (hw : 1 ≤ w) {r : List (List Int)} (h : r ∈ pairsL allS w) : StepsOk r ∧ r.length = 2 := by
  obtain ⟨a, ha, h⟩ := List.mem_flatMap.mp h
  obtain ⟨x, hx, h⟩ := List.mem_flatMap.mp h
  obtain ⟨y, hy, rfl⟩ := List.mem_map.mp h
  obtain ⟨⟨a1, a2⟩, a3, a4⟩ := szs_mem hw ha
  refine ⟨⟨by simp, fun s hs => ?_⟩, rfl⟩
  simp only [List.mem_cons, List.not_mem_nil, or_false] at hs
  rcases hs with rfl | rfl
  · exact (allS_ok a1 a2 hx).1
  · exact (allS_ok a3 a4 hy).1
theorem cand_ok {w many : Nat} (hw : 1 ≤ w) {r : List (List Int)} (h : r ∈ candL w many) : StepsOk r := by
  rcases many with _ | _ | n
  · have h : r ∈ (if w = 1 then [[]] else [] : List (List (List Int))) := h
    by_cases h1 : w = 1
    · rw [if_pos h1] at h
      rw [List.mem_singleton.mp h]; exact ⟨by simp, fun s hs => nomatch hs⟩
    · rw [if_neg h1] at h; cases h
  · have h : r ∈ (if w ≤ 3 then (allS w).map fun s => [s] else [] : List (List (List Int))) := h
    by_cases h3 : w ≤ 3
    · rw [if_pos h3] at h
      obtain ⟨s, hs, rfl⟩ := List.mem_map.mp h
      exact ⟨by simp, fun t ht => by rw [List.mem_singleton.mp ht]; exact (allS_ok hw h3 hs).1⟩
    · rw [if_neg h3] at h; cases h
  · exact (pairs_ok hw ((sortR_perm _).mem_iff.mp h)).1
theorem cand_len {w many : Nat} (hw : 1 ≤ w) : (candL w many).length ≤ 6912 := by
  rcases many with _ | _ | n
  · show (if w = 1 then [[]] else [] : List (List (List Int))).length ≤ _
    split <;> simp
  · show (if w ≤ 3 then (allS w).map fun s => [s] else [] : List (List (List Int))).length ≤ _
    split
    · rename_i h3
      rw [List.length_map]
      have := allS_48 hw h3
      omega
    · simp
  · show (sortR _).length ≤ _
    rw [(sortR_perm _).length_eq]; exact pairs_len hw
theorem range_getD {α : Type} (l : List α) (d : α) : (List.range l.length).map (fun q => l.getD q d) = l := by
  apply List.ext_getElem
  · simp
  · intro i h1 h2
    rw [List.getElem_map, List.getElem_range, getD_at h2]
theorem flat_getD {α β : Type} {l : List α} {d : α} {G : α → List β} : (List.range l.length).flatMap (fun q => G (l.getD q d)) = l.flatMap G := by
  conv => rhs; rw [← range_getD l d, List.flatMap_map]
theorem pairs_map {w : Nat} : (szs w).flatMap (fun a => ((allS a).flatMap fun x => (allS (w / a)).map fun y => [x, y]).map ssD) = (pairsL allS w).map ssD := by
  rw [pairsL, List.map_flatMap]; rfl
theorem pr_map (L R : List (List Int)) : (L.flatMap fun x => R.map fun y => [x, y]).map ssD = L.flatMap fun x => R.map fun y => ssD [x, y] := by
  rw [List.map_flatMap]
  congr 1; funext x
  rw [List.map_map]; rfl
theorem dep_ssD (ss : List (List Int)) : (ssD ss).depth ≤ 2 := by
  have h := dep_all sC ss
  show (PyData.tuple (ss.map sC.d)).depth ≤ 2
  simp only [PyData.depth]; exact Nat.succ_le_succ h
def phCand : Phi := fun ds M P _ => ∃ w many : Nat, ds = [dI w, dI many] ∧ (1 ≤ w ∧ w ≤ 27) ∧ many ≤ 2 ∧ ∀ a, P (.own a) ((a, .lst ((candL w many).map ssD)) :: M)
theorem ok_cand {m : Md} {f : Addr} {fd : FuncData} {k : Nat} (F : Fun m.K "candidates" "candidates" S_candidates f fd) (F1 : Fd m CX0 k "all_steps" phSteps) (m1 : m.mg "sorted" = none) (m3 : m.mg "range" = none) (g3 : GlD m "MOST_WIDE" (dI 3)) :
    FnOk m.P m.w m.K m.mg m.base CX0 (k + 1) f fd A_candidates (spOf m.G phCand) := by
  refine fn_ok F sc_candidates (fun ds M P R h => by obtain ⟨w, many, rfl, _⟩ := h; rfl) (fun c ds M P R hc o hl h => ?_)
  subst hc
  obtain ⟨w, many, rfl, ⟨h1, h2⟩, hm, p⟩ := h
  show Eb c [some (dI w), some (dI many), none, none, none, none, none, none] M _ _
  rcases (by omega : many = 0 ∨ many = 1 ∨ many = 2) with rfl | rfl | rfl
  · refine b_cons' (by rfl) ?_
    repeat walk_at "x"
    refine ⟨fun _ => ?_, fun hz => absurd hz (by decide)⟩
    refine sq_ret ?_
    refine b_cons' (by rfl) ?_
    repeat walk_at "x"
    refine ⟨fun hz => ?_, fun hz => ?_⟩
    · have hw1 : w = 1 := by have := of_decide_eq_true hz; omega
      rw [show candL w 0 = [[]] from if_pos hw1] at p
      refine e_lstO ?_
      repeat walk_at "x"
      exact fun a => ⟨_, Conv.refl, p a⟩
    · have hw1 : w ≠ 1 := by have := of_decide_eq_false hz; omega
      rw [show candL w 0 = [] from if_neg hw1] at p
      refine e_lstO ?_
      repeat walk_at "x"
      exact fun a => ⟨_, Conv.refl, p a⟩
  · refine b_cons' (by rfl) ?_
    repeat walk_at "x"
    refine ⟨fun hz => absurd hz (by decide), fun _ => ?_⟩
    repeat walk_at "x"
    refine ⟨fun _ => ?_, fun hz => absurd hz (by decide)⟩
    refine sq_ret ?_
    refine b_cons' (by rfl) ?_
    repeat walk_at "x"
    refine ⟨fun hz => ?_, fun hz => ?_⟩
    · have hw1 : w ≤ 3 := by have := of_decide_eq_true hz; omega
      rw [show candL w 1 = (allS w).map fun s => [s] from if_pos hw1] at p
      refine e_lcM [("step", 2)] o rfl (fun _ => rfl) ?_
      refine i_list o (e_frz ?_)
      repeat walk_at "x"
      refine ⟨w, rfl, ⟨h1, hw1⟩, fun b => ⟨b, _, 0, rfl, rfl, ?_⟩⟩
      refine ⟨_, .p _, ?_⟩
      rw [List.length_map]
      have h48 := allS_48 h1 hw1
      generalize allS w = L at p h48 ⊢
      refine ⟨fun j => ssD [L.getD j []], by omega, fun acc a => .p _, fun j acc a hj X1 o1 => ?_, fun a => ?_⟩
      · dsimp only
        rw [getD_map hj, List.getD_eq_getElem?_getD, List.getElem?_eq_getElem hj]
        generalize L[j] = e
        simp only [Option.getD_some]
        repeat walk_at "x"
        intro X2 o2
        repeat walk_at "x"
        exact ⟨rfl, rfl⟩
      · refine ⟨_, Conv.refl, ?_⟩
        have := p a
        rw [range_map_get (xs := L) (f := fun s => ssD [s]) fun i hi => by rw [List.getD_eq_getElem?_getD, List.getElem?_eq_getElem hi]; rfl]
        rw [List.map_map] at this
        exact this
    · have hw1 : ¬ w ≤ 3 := by have := of_decide_eq_false hz; omega
      rw [show candL w 1 = [] from if_neg hw1] at p
      refine e_lstO ?_
      repeat walk_at "x"
      exact fun a => ⟨_, Conv.refl, p a⟩
  · refine sq_ret ?_
    refine b_cons' (by rfl) ?_
    repeat walk_at "x"
    refine ⟨fun hz => absurd hz (by decide), fun _ => ?_⟩
    repeat walk_at "x"
    refine ⟨fun hz => absurd hz (by decide), fun _ => ?_⟩
    repeat walk_at "x"
    refine s_setLcF [("size", 4)] o rfl rfl (fun _ => rfl) rfl rfl rfl ?_
    repeat walk_at "x"
    refine ⟨_, _, rfl, ⟨by omega, by omega⟩, ⟨by decide, by decide⟩, ?_⟩
    rw [show ((3 : Int) + 1 - 1).toNat = 3 from rfl]
    refine ⟨fun j => decide (w % (j + 1) = 0) && decide (w / (j + 1) ≤ 3), fun j => natI (j + 1), by omega, fun acc a2 => trivial, fun j acc a2 hj X1 o1 => ?_, fun a2 => ?_⟩
    · dsimp only
      rw [show (1 : Int) + (j : Int) = ((j + 1 : Nat) : Int) by omega]
      generalize hj1 : j + 1 = j1
      have hj2 : 1 ≤ j1 ∧ j1 ≤ 3 := by omega
      repeat walk_at "x"
      intro X2 o2
      repeat walk_at "x"
      refine o_mod (by omega) ?_
      rw [← Int.natCast_emod]
      repeat walk_at "x"
      refine ⟨fun hz => ?_, fun hz => ?_⟩
      · have hz1 : w % j1 = 0 := by have := of_decide_eq_true hz; omega
        repeat walk_at "x"
        refine o_fdiv (cdivw (by omega) (by omega)) ?_
        rw [← Int.natCast_ediv]
        repeat walk_at "x"
        refine ⟨?_, rfl, fun _ X3 o3 => ?_⟩
        · rw [hz1, decide_eq_true rfl, Bool.true_and]
          exact decide_eq_decide.mpr (by omega)
        · repeat walk_at "x"
          exact ⟨rfl, rfl⟩
      · have hz1 : w % j1 ≠ 0 := by have := of_decide_eq_false hz; omega
        refine ⟨?_, rfl, fun z => absurd z (by decide)⟩
        rw [decide_eq_false hz1, Bool.false_and]
    · have hz : ((List.range 3).filter fun j => decide (w % (j + 1) = 0) && decide (w / (j + 1) ≤ 3)).map (fun j => natI (j + 1)) = (szs w).map natI := by
        rw [szs, show [1, 2, 3] = (List.range 3).map (· + 1) from rfl, List.filter_map, List.map_map]; rfl
      rw [hz]
      repeat walk_at "x"
      refine s_setLcR [("size", 4), ("one", 6), ("other", 7)] [6, 7] o rfl rfl (by decide) (fun _ => rfl) rfl rfl rfl (fun _ _ _ => turn3_0) (fun _ _ => rfl) ?_
      refine i_list o ?_
      repeat walk_at "x"
      refine ⟨_, .own (.head _), ?_⟩
      rw [List.length_map]
      refine ⟨fun q => ((allS ((szs w).getD q 0)).flatMap fun x => (allS (w / (szs w).getD q 0)).map fun y => [x, y]).map ssD, ?_, fun acc a3 => .own (.tail _ (.head _)), fun q acc a3 hq hl X1 o1 => ?_, fun a3 => ?_⟩
      · rw [flat_getD (G := fun a => ((allS a).flatMap fun x => (allS (w / a)).map fun y => [x, y]).map ssD), pairs_map, List.length_map]
        exact Nat.le_trans (pairs_len h1) (by decide)
      · have hmem := List.getElem_mem hq
        dsimp only at hl ⊢
        rw [getD_map hq]
        rw [getD_at hq] at hl ⊢
        obtain ⟨⟨s1, s2⟩, s3, s4⟩ := szs_mem h1 hmem
        generalize (szs w)[q] = s at hl s1 s2 s3 s4 ⊢
        have l1 := allS_48 s1 s2
        have l2 := allS_48 s3 s4
        repeat walk_at "x"
        intro X2 o2 hx2
        refine er_o (vs1 := [7]) (fun _ _ _ => turn3_1) (starts3 (.inl rfl)) (fun _ _ => rfl) o2 hx2 (by decide) ?_
        refine i_list o2 (e_frz ?_)
        repeat walk_at "x"
        refine ⟨s, rfl, ⟨s1, s2⟩, fun b => ⟨b, _, 0, rfl, rfl, ⟨_, .p _, rfl, ?_⟩⟩⟩
        rw [List.length_map]
        refine ⟨fun i => (allS (w / s)).map fun y => ssD [(allS s).getD i [], y], ?_, fun acc' => .p _, fun i acc' hi hl' => ?_, ?_⟩
        · rw [flat_getD (l := allS s) (G := fun x => (allS (w / s)).map fun y => ssD [x, y]), ← pr_map]
          exact hl
        · dsimp only at hl' ⊢
          rw [getD_map hi, getD_at hi]
          generalize (allS s)[i] = x
          repeat walk_at "x"
          refine er_l (fun _ _ _ => turn3_2) (starts3 (.inr rfl)) o2 hx2 ?_
          refine i_list o2 (e_frz ?_)
          repeat walk_at "x"
          refine o_fdiv (cdivw (by omega) (by omega)) ?_
          rw [← Int.natCast_ediv]
          repeat walk_at "x"
          refine ⟨w / s, rfl, ⟨s3, s4⟩, fun b2 => ⟨b2, _, 0, rfl, rfl, ⟨_, .p _, rfl, ?_⟩⟩⟩
          rw [List.length_map]
          rw [List.length_map] at hl'
          refine ⟨fun _ => true, fun i => ssD [x, (allS (w / s)).getD i []], hl', fun acc'' => .p _, fun i2 acc'' hi2 => ?_, ?_⟩
          · dsimp only
            rw [getD_map hi2, getD_at hi2]
            generalize (allS (w / s))[i2] = y
            repeat walk_at "x"
            refine ⟨rfl, rfl, fun _ => ?_⟩
            repeat walk_at "x"
            exact ⟨rfl, rfl⟩
          · rw [filter_true, range_map_get (xs := allS (w / s)) (f := fun y => ssD [x, y]) fun i hi => by rw [getD_at hi]]
        · rw [flat_getD (l := allS s) (G := fun x => (allS (w / s)).map fun y => ssD [x, y]), ← pr_map]
      · rw [flat_getD (G := fun a => ((allS a).flatMap fun x => (allS (w / a)).map fun y => [x, y]).map ssD), pairs_map]
        repeat walk_at "x"
        refine ⟨_, .own (.head _), fun d hd => ?_, allAlike_ssD _, .inl (sortable_ssD fun r hr => ?_), fun b => ?_⟩
        · obtain ⟨r, hr, rfl⟩ := List.mem_map.mp hd
          exact Nat.le_trans (dep_ssD r) (by decide)
        · intro z
          have := (pairs_ok h1 hr).2
          rw [z] at this; exact absurd this (by decide)
        · rw [sortD_ssD]
          exact ⟨_, Conv.sub (.cons_cons _ (.cons _ (.cons _ (.refl _)))), p b⟩
end

section
open PySem PySem.Spec PyProof.Rows L2
open Evl (Ex)
def fndL (ss : List (List Int)) (many : Nat) : List (List (List Int)) := (candL (wideOf ss) many).filter fun r => decide (ordsN ss = ordsN r)
def shortL (ss : List (List Int)) : List (List (List Int)) := if fndL ss 0 ≠ [] then fndL ss 0 else if fndL ss 1 ≠ [] then fndL ss 1 else fndL ss 2
theorem shortL_at {ss : List (List Int)} {i : Nat} (hi : i < 3) (h : ∀ j, j < i → fndL ss j = []) (hn : fndL ss i ≠ []) : shortL ss = fndL ss i := by
  unfold shortL
  rcases (by omega : i = 0 ∨ i = 1 ∨ i = 2) with rfl | rfl | rfl
  · rw [if_pos hn]
  · rw [if_neg (not_not_intro (h 0 (by omega))), if_pos hn]
  · rw [if_neg (not_not_intro (h 0 (by omega))), if_neg (not_not_intro (h 1 (by omega)))]
theorem shortL_none {ss : List (List Int)} (h : ∀ j, j < 3 → fndL ss j = []) : shortL ss = [] := by
  unfold shortL
  rw [if_neg (not_not_intro (h 0 (by omega))), if_neg (not_not_intro (h 1 (by omega))), h 2 (by omega)]
theorem filter_getD {α β : Type} {xs : List α} {d : α} {p : α → Bool} {f : α → β} : ((List.range xs.length).filter fun j => p (xs.getD j d)).map (fun j => f (xs.getD j d)) = (xs.filter p).map f := by
  conv => rhs; rw [← range_getD xs d, List.filter_map, List.map_map]
  rfl
def phShort : Phi := fun ds M P _ => ∃ ss : List (List Int), ds = [.scr (ssD ss)] ∧ StepsOk ss ∧ ∀ a, P (.own a) ((a, .lst ((shortL ss).map ssD)) :: M)
theorem ok_short {m : Md} {f : Addr} {fd : FuncData} {k : Nat} (F : Fun m.K "shortest" "shortest" S_shortest f fd) (F1 : Fd m CX0 k "candidates" phCand) (F2 : Fd m CX0 k "are_alike" phAreA) (S : ClsS m) (F3 : PrS m (k - 1) "wide" phWide) (FS : MkS m (k - 1) (phInit m.C)) (h1 : 1 ≤ k) (m3 : m.mg "range" = none) :
    FnOk m.P m.w m.K m.mg m.base CX0 (k + 1) f fd A_shortest (spOf m.G phShort) := by
  refine fn_ok F sc_shortest (fun ds M P R h => by obtain ⟨ss, rfl, _⟩ := h; rfl) (fun c ds M P R hc o hl h => ?_)
  subst hc
  obtain ⟨ss, rfl, hs, p⟩ := h
  have hw := wide_le hs
  show Eb c [some (.scr (ssD ss)), none, none, none] M _ _
  refine sq_ret ?_
  refine b_cons' (by rfl) ?_
  repeat walk_at "x"
  refine ⟨⟨by decide, by decide⟩, ?_⟩
  refine ⟨fun i Γ' M' => (∀ j, j < i → fndL ss j = []) ∧ ∃ y1 y2 y3, Γ' = [some (.scr (ssD ss)), y1, y2, y3] ∧ M' = M, ⟨fun j hj => absurd hj (by omega), _, _, _, rfl, rfl⟩, fun _ _ _ _ _ => trivial, fun i Γ' M' hi hj => ?_, fun Γ' M' hj => ?_⟩
  rotate_left
  · obtain ⟨hn, y1, y2, y3, rfl, rfl⟩ := hj
    rw [shortL_none hn] at p
    repeat walk_at "x"
    refine e_lstO ?_
    repeat walk_at "x"
    exact fun a => ⟨_, Conv.refl, p a⟩
  obtain ⟨hn, y1, y2, y3, rfl, rfl⟩ := hj
  have hi : i < 3 := hi
  have hcl := cand_len (w := wideOf ss) (many := i) (by omega)
  repeat walk_at "x"
  refine s_setLcF [("steps", 3)] o rfl rfl (fun _ => rfl) rfl rfl rfl ?_
  refine i_list o (e_frz ?_)
  repeat walk_at "x"
  refine ⟨⟨_, rfl⟩, ss, rfl, hs, ?_⟩
  repeat walk_at "x"
  refine ⟨wideOf ss, i, rfl, ⟨by omega, by omega⟩, by omega, fun b => ⟨b, _, 0, rfl, rfl, ⟨_, .p _, ?_⟩⟩⟩
  rw [List.length_map]
  refine ⟨fun j => decide (ordsN ss = ordsN ((candL (wideOf ss) i).getD j [])), fun j => ssD ((candL (wideOf ss) i).getD j []), by omega, fun acc a => .p _, fun j acc a hj X1 o1 => ?_, fun a => ?_⟩
  · have hr := cand_ok (w := wideOf ss) (many := i) (by omega) (List.getElem_mem hj)
    dsimp only
    rw [getD_map hj, getD_at hj]
    generalize (candL (wideOf ss) i)[j] = r at hr
    repeat walk_at "x"
    intro X2 o2
    repeat walk_at "x"
    intro x dx
    refine ⟨x, dx, r, _, rfl, rfl, hr, rfl, 0, _, rfl, ?_⟩
    repeat walk_at "x"
    refine ⟨ss, r, rfl, hs, hr, ?_⟩
    refine ⟨_, rfl, rfl, rfl, fun _ X3 o3 => ?_⟩
    repeat walk_at "x"
    exact ⟨rfl, rfl⟩
  · have he : ((List.range (candL (wideOf ss) i).length).filter fun j => decide (ordsN ss = ordsN ((candL (wideOf ss) i).getD j []))).map (fun j => ssD ((candL (wideOf ss) i).getD j [])) = (fndL ss i).map ssD :=
      filter_getD (p := fun r => decide (ordsN ss = ordsN r)) (f := ssD)
    rw [he]
    repeat walk_at "x"
    refine e_lst ?_
    repeat walk_at "x"
    refine on_c (lC ssC) (fndL ss i) [] (.own (.head _)) (.p _) rfl ?_
    refine ⟨_, rfl, fun hz => ?_, fun hz => ?_⟩
    · have hz : fndL ss i ≠ [] := by simpa using hz
      rw [shortL_at hi hn hz] at p
      repeat walk_at "x"
      exact ⟨_, Conv.refl, p a⟩
    · have hz : fndL ss i = [] := by simpa using hz
      rw [hz]
      refine sq_conv (M2 := M') Conv.drop ?_
      repeat walk_at "x"
      refine ⟨fun j hj => ?_, _, _, _, rfl, rfl⟩
      rcases (by omega : j < i ∨ j = i) with h | rfl
      · exact hn j h
      · exact hz
end

section
open PySem PySem.Spec PyProof.Rows L2
open Evl (Ex)
section
variable {c : Cd} {N : List Str} {sc : Scope} {k : Nat} {Γ : Gx} {M : Mem} {pos : Pos}
theorem gv_tri {x y z : Str} {i j l : Nat} {d1 d2 d3 : PyData} {vs : List Nat} {q : Nat} {p1 p2 p3 : Pos} {Pg : Gx → Mem → Prop} [hi : At N x i] [hj : At N y j] [hk : At N z l] (o : c.Ok N sc k) (hl : L2.Loc sc x) (hf : sc.names.lookup x = some .local ∨ c.lvl = true) (hl2 : L2.Loc sc y) (hf2 : sc.names.lookup y = some .local ∨ c.lvl = true) (hl3 : L2.Loc sc z) (hf3 : sc.names.lookup z = some .local ∨ c.lvl = true)
    (h1 : (assignEach [.Name z p3] c.X.env).map (·.2) = assign (.Name z p3) c.X.env :: (assignEach [] c.X.env).map (·.2)) (h2 : (assignEach [.Name y p2, .Name z p3] c.X.env).map (·.2) = assign (.Name y p2) c.X.env :: (assignEach [.Name z p3] c.X.env).map (·.2))
    (h3 : (assignEach [.Name x p1, .Name y p2, .Name z p3] c.X.env).map (·.2) = assign (.Name x p1) c.X.env :: (assignEach [.Name y p2, .Name z p3] c.X.env).map (·.2))
    (hn : (assignEach [.Name x p1, .Name y p2, .Name z p3] c.X.env).length = 3) (hst : (assignEach [.Name x p1, .Name y p2, .Name z p3] c.X.env).findIdx? (·.1) = none) (hv : i ∈ vs) (hw : j ∈ vs) (hu : l ∈ vs)
    (p : Pg (((Γ.set i (some (.p d1))).set j (some (.p d2))).set l (some (.p d3))) M) : Egv c Γ M (.Tuple [.Name x p1, .Name y p2, .Name z p3] q pos) (dT [d1, d2, d3]) vs Pg := fun σ H H1 v Q tr sl iv qq => by
  have n1 : PG c.X (.Name x p1) (gName i) := pg_name (by rw [o.hN]; exact o.nd) (by rw [o.hN]; exact hi.at_) (loc_of o hl) (fn_of' o hf)
  have n2 : PG c.X (.Name y p2) (gName j) := pg_name (by rw [o.hN]; exact o.nd) (by rw [o.hN]; exact hj.at_) (loc_of o hl2) (fn_of' o hf2)
  have n3 : PG c.X (.Name z p3) (gName l) := pg_name (by rw [o.hN]; exact o.nd) (by rw [o.hN]; exact hk.at_) (loc_of o hl3) (fn_of' o hf3)
  refine pg_to (pg_tup o.calm (pgs_cons n1 (pgs_cons n2 (pgs_cons n3 pgs_nil h1) h2) h3) hn hst) ?_
  obtain ⟨a, vs, rfl, hq, hd⟩ := iv.tup
  obtain ⟨v1, v2, v3, rfl, i1, i2, i3⟩ : ∃ v1 v2 v3, vs = [v1, v2, v3] ∧ Dq c.G.K H v1 d1 ∧ Dq c.G.K H v2 d2 ∧ Dq c.G.K H v3 d3 := by
    cases hd with
    | cons a1 t =>
      cases t with
      | cons a2 t =>
        cases t with
        | cons a3 t => cases t; exact ⟨_, _, _, rfl, a1, a2, a3⟩
  rw [show c.X.K = c.G.K from o.K]
  exact ⟨a, _, rfl, Evl.ex_t tr.ok.ex hq, rfl, v1, [v2, v3], rfl, v2, [v3], rfl, v3, [], rfl, rfl, qq _ M _ H H1 p tr (Evl.Ex.refl H) (((Slots.set (d := .p d1) sl i i1).set (d := .p d2) j i2).set (d := .p d3) l i3) (by rw [wipe_set hu, wipe_set hw, wipe_set hv])⟩
end
abbrev Row := Nat × Nat × Nat
def rowR (r : Row) : PyData := .tuple [natI r.1, natI r.2.1, natI r.2.2]
def RowOk (r : Row) : Prop := r.1 ≤ TOP ∧ r.2.1 < r.1 ∧ r.2.2 < r.1
def seenB : PyData → Bool
  | .tuple [a, b, e] => isInt a 0 1000000000000000000000000000000 && (match a with
    | .int n => isInt b 0 (n - 1) && isInt e 0 (n - 1)
    | _ => false)
  | _ => false
theorem seen_row {r : Row} (h : RowOk r) : seenB (rowR r) = true := by
  obtain ⟨h1, h2, h3⟩ := h
  unfold TOP at h1
  simp only [rowR, seenB, natI, isInt, Bool.and_eq_true, decide_eq_true_eq]
  omega
theorem seen_len {xs : List PyData} (h : xs.length ≠ 3) : seenB (.tuple xs) = false := by
  match xs, h with
  | [], _ => rfl
  | [_], _ => rfl
  | [_, _], _ => rfl
  | [_, _, _], h => exact absurd rfl h
  | _ :: _ :: _ :: _ :: _, _ => rfl
def phSeen : Phi := fun ds M P _ => ∃ d, ds = [.p d] ∧ P (dB (seenB d)) M
theorem ok_isSeen {m : Md} {f : Addr} {fd : FuncData} {k : Nat} (F : Fun m.K "is_seen" "is_seen" S_is_seen f fd) (F1 : Fd m CX0 k "is_integer" phII) (g1 : GlD m "MOST_LENGTH" (dI 1000000000000000000000000000000)) (m1 : m.mg "isinstance" = none) (m2 : m.mg "tuple" = none) (m3 : m.mg "len" = none) :
    FnOk m.P m.w m.K m.mg m.base CX0 (k + 1) f fd A_is_seen (spOf m.G phSeen) := by
  refine fn_ok F sc_is_seen (fun ds M P R h => by obtain ⟨d, rfl, _⟩ := h; rfl) (fun c ds M P R hc o hl h => ?_)
  subst hc
  obtain ⟨d, rfl, p⟩ := h
  show Eb c [some (.p d)] M _ _
  refine b_cons' (by rfl) ?_
  repeat walk_at "x"
  refine ⟨fun h => ?_, fun h => ?_⟩
  · cases d with
    | tuple xs => exact absurd h (by simp [isI, tyN])
    | _ =>
      repeat walk_at "x"
      exact p
  · obtain ⟨xs, rfl⟩ : ∃ xs, d = .tuple xs := by
      cases d with
      | tuple xs => exact ⟨xs, rfl⟩
      | _ => exact absurd h (by simp [isI, tyN])
    repeat walk_at "x"
    refine ⟨fun h1 => ?_, fun h1 => ?_⟩
    · have h1 : xs.length ≠ 3 := by
        intro z; rw [z] at h1; exact absurd h1 (by decide)
      rw [seen_len h1] at p
      repeat walk_at "x"
      exact p
    · have h1 : xs.length = 3 := by
        have : ¬ ((xs.length : Int) ≠ 3) := by simpa using h1
        omega
      obtain ⟨a, b, e, rfl⟩ : ∃ a b e, xs = [a, b, e] := by
        match xs, h1 with
        | [a, b, e], _ => exact ⟨a, b, e, rfl⟩
      repeat walk_at "x"
      refine ox_tup (i := 0) (j := 0) (p := a) rfl (.inl rfl) ?_
      repeat walk_at "x"
      refine ⟨a, 0, _, rfl, ?_⟩
      refine ⟨_, rfl, fun h2 => ?_, fun h2 => ?_⟩
      · have h2 : isInt a 0 1000000000000000000000000000000 = false := by simpa using h2
        rw [show seenB (.tuple [a, b, e]) = false by simp only [seenB, h2, Bool.false_and]] at p
        repeat walk_at "x"
        exact p
      · have h2 : isInt a 0 1000000000000000000000000000000 = true := by simpa using h2
        obtain ⟨n, rfl⟩ : ∃ n, a = .int n := by
          cases a with
          | int n => exact ⟨n, rfl⟩
          | _ => exact absurd h2 (by simp [isInt])
        rw [show seenB (.tuple [.int n, b, e]) = (isInt b 0 (n - 1) && isInt e 0 (n - 1)) by simp only [seenB, h2, Bool.true_and]] at p
        repeat walk_at "x"
        refine ox_tup (i := 1) (j := 1) (p := b) rfl (.inl rfl) ?_
        repeat walk_at "x"
        refine ox_tup (i := 0) (j := 0) (p := .int n) rfl (.inl rfl) ?_
        repeat walk_at "x"
        refine ⟨b, 0, _, rfl, ?_⟩
        repeat walk_at "x"
        refine ⟨fun h3 => ?_, fun h3 => ?_⟩
        · rw [h3, Bool.true_and] at p
          repeat walk_at "x"
          refine ox_tup (i := 2) (j := 2) (p := e) rfl (.inl rfl) ?_
          repeat walk_at "x"
          refine ox_tup (i := 0) (j := 0) (p := .int n) rfl (.inl rfl) ?_
          repeat walk_at "x"
          exact ⟨e, 0, _, rfl, p⟩
        · rw [h3, Bool.false_and] at p
          exact p
def behR (s : List Int) (r : Row) : Row := (r.1, plcBy s r.1 r.2.1, r.2.2)
def fitsB (rs : List Row) : Bool := rs.all fun r => decide (r.2.1 = r.2.2)
theorem stepOrd {s : List Int} (h : StepOk s) : OrdOk s := ⟨h.1, h.2.2⟩
def phBehind : Phi := fun ds M P _ => ∃ (s : List Int) (x : D) (rs : List Row), ds = [.p (sD s), x] ∧ StepOk s ∧ Rdd M x (.list (rs.map rowR)) ∧ rs.length ≤ 99999 ∧ (∀ r ∈ rs, RowOk r) ∧ ∀ a, P (.own a) ((a, .lst ((rs.map (behR s)).map rowR)) :: M)
theorem ok_behind {m : Md} {f : Addr} {fd : FuncData} {k : Nat} (F : Fun m.K "behind_step" "behind_step" S_behind_step f fd) (F1 : Fd m CX0 k "place_by" phPlaceBy) :
    FnOk m.P m.w m.K m.mg m.base CX0 (k + 1) f fd A_behind_step (spOf m.G phBehind) := by
  refine fn_ok F sc_behind_step (fun ds M P R h => by obtain ⟨s, x, rs, rfl, _⟩ := h; rfl) (fun c ds M P R hc o hl h => ?_)
  subst hc
  obtain ⟨s, x, rs, rfl, hs, hx, hn, hr, p⟩ := h
  show Eb c [some (.p (sD s)), some x, none, none, none] M _ _
  refine b_cons' (by rfl) ?_
  repeat walk_at "x"
  refine e_lcM [("length", 2), ("sign", 3), ("goal", 4)] o rfl (fun _ => rfl) ?_
  refine i_list o ?_
  repeat walk_at "x"
  refine ⟨_, hx, ?_⟩
  rw [List.length_map]
  refine ⟨fun j => rowR (behR s (rs.getD j (0, 0, 0))), hn, fun acc a => hx.cons, fun j acc a hj X1 o1 => ?_, fun a => ?_⟩
  · have hrj := hr _ (List.getElem_mem hj)
    dsimp only
    rw [getD_map hj, getD_at hj]
    generalize rs[j] = r at hrj
    obtain ⟨n, i, g⟩ := r
    obtain ⟨b1, b2, b3⟩ := hrj
    unfold rowR natI
    refine gv_tri (by assumption) (.inl rfl) (.inl rfl) (.inl rfl) (.inl rfl) (.inl rfl) (.inl rfl) rfl rfl rfl rfl rfl ?_ ?_ ?_ ?_
    · decide
    · decide
    · decide
    intro X2 o2
    repeat walk_at "x"
    refine ⟨s, n, i, rfl, stepOrd hs, by have := hs.2.1; omega, b2, ?_⟩
    repeat walk_at "x"
    first | exact ⟨_, rfl, by decide, rfl, rfl⟩ | exact ⟨rfl, rfl⟩ | exact rfl
  · rw [range_map_get (f := fun r => rowR (behR s r)) (xs := rs) fun i hi => by rw [getD_at hi]]
    have := p a
    rw [List.map_map] at this
    exact this
def phFits : Phi := fun ds M P _ => ∃ (x : D) (rs : List Row), ds = [x] ∧ Rdd M x (.list (rs.map rowR)) ∧ rs.length ≤ 99999 ∧ P (dB (fitsB rs)) M
theorem ok_fits {m : Md} {f : Addr} {fd : FuncData} {k : Nat} (F : Fun m.K "fits" "fits" S_fits f fd) (m1 : m.mg "all" = none) :
    FnOk m.P m.w m.K m.mg m.base CX0 (k + 1) f fd A_fits (spOf m.G phFits) := by
  refine fn_ok F sc_fits (fun ds M P R h => by obtain ⟨x, rs, rfl, _⟩ := h; rfl) (fun c ds M P R hc o hl h => ?_)
  subst hc
  obtain ⟨x, rs, rfl, hx, hn, p⟩ := h
  show Eb c [some x, none, none, none] M _ _
  refine sq_ret ?_
  refine b_cons' (by rfl) ?_
  repeat walk_at "x"
  refine e_lcM [("length", 1), ("sign", 2), ("goal", 3)] o rfl (fun _ => rfl) ?_
  refine i_list o ?_
  repeat walk_at "x"
  refine ⟨_, hx, ?_⟩
  rw [List.length_map]
  refine ⟨fun j => .bool (decide ((rs.getD j (0, 0, 0)).2.1 = (rs.getD j (0, 0, 0)).2.2)), hn, fun acc a => hx.cons, fun j acc a hj X1 o1 => ?_, fun a => ?_⟩
  · dsimp only
    rw [getD_map hj, getD_at hj]
    generalize rs[j] = r
    obtain ⟨n, i, g⟩ := r
    unfold rowR natI
    refine gv_tri (by assumption) (.inl rfl) (.inl rfl) (.inl rfl) (.inl rfl) (.inl rfl) (.inl rfl) rfl rfl rfl rfl rfl ?_ ?_ ?_ ?_
    · decide
    · decide
    · decide
    intro X2 o2
    repeat walk_at "x"
    exact ⟨by rw [show decide ((i : Int) = (g : Int)) = decide (i = g) from decide_eq_decide.mpr (by omega)], rfl⟩
  · rw [range_map_get (f := fun r : Row => PyData.bool (decide (r.2.1 = r.2.2))) (xs := rs) fun i hi => by rw [getD_at hi]]
    repeat walk_at "x"
    refine c_all (bs := rs.map fun r => decide (r.2.1 = r.2.2)) (.own (by rw [List.map_map]; exact .head _)) ?_
    rw [show (rs.map fun r : Row => decide (r.2.1 = r.2.2)).all id = fitsB rs by unfold fitsB; rw [List.all_map]; rfl]
    exact ⟨_, Conv.drop, p⟩
end

section
open PySem PySem.Spec PyProof.Rows L2
open Evl (Ex)
def stepsL : List (List Int) := [1, 2, 3].flatMap fun w => (allS w).filter fun s => decide (s ≠ [1])
def layL (rs : List Row) : Nat → List (List (List Int) × List Row)
  | 0 => [([], rs)]
  | n + 1 => (layL rs n).flatMap fun p => stepsL.map fun s => (p.1 ++ [s], p.2.map (behR s))
def fndF (rs : List Row) (n : Nat) : List (List (List Int)) := ((layL rs n).filter fun p => fitsB p.2).map (·.1)
def fitL (rs : List Row) (most : Nat) : List (List (List Int)) := sortR ((List.range (most + 1)).flatMap (fndF rs))
theorem stepsL_ok {s : List Int} (h : s ∈ stepsL) : StepOk s := by
  obtain ⟨w, hw, h⟩ := List.mem_flatMap.mp h
  have hw : 1 ≤ w ∧ w ≤ 3 := by simp only [List.mem_cons, List.not_mem_nil, or_false] at hw; omega
  exact (allS_ok hw.1 hw.2 (List.mem_filter.mp h).1).1
theorem allS_48w {n : Nat} (h1 : 1 ≤ n) (h2 : n ≤ 3) : (allS n).length ≤ 48 := by rw [(allS_perm h1 h2).length_eq]; exact lawN_few h2
def everyL : List (List Int) := (lawN 1 ++ lawN 2 ++ lawN 3).filter fun s => decide (s ≠ [1])
theorem stepsL_perm : stepsL.Perm everyL := by
  unfold stepsL everyL
  have e : ([1, 2, 3] : List Nat).flatMap (fun w => (allS w).filter fun s => decide (s ≠ [1])) = ((allS 1 ++ allS 2) ++ allS 3).filter fun s => decide (s ≠ [1]) := by
    simp [List.filter_append]
  rw [e]
  exact (((allS_perm (by decide) (by decide)).append (allS_perm (by decide) (by decide))).append (allS_perm (by decide) (by decide))).filter _
theorem every_len : everyL.length = 57 := by decide +kernel
theorem stepsL_len : stepsL.length = 57 := stepsL_perm.length_eq.trans every_len
theorem flat_lenW {α β : Type} {f : α → List β} {n : Nat} : ∀ xs : List α, (∀ x ∈ xs, (f x).length = n) → (xs.flatMap f).length = xs.length * n
  | [], _ => by simp
  | x :: xs, h => by
    rw [List.flatMap_cons, List.length_append, h x (by simp), flat_lenW xs fun y hy => h y (List.mem_cons_of_mem _ hy), List.length_cons, Nat.succ_mul]; omega
theorem layL_len (rs : List Row) : ∀ n, (layL rs n).length = 57 ^ n
  | 0 => rfl
  | n + 1 => by
    rw [layL, flat_lenW (n := 57) _ fun p _ => by rw [List.length_map, stepsL_len], layL_len rs n, Nat.pow_succ]
theorem layL_ok {rs : List Row} : ∀ n, ∀ p ∈ layL rs n, p.1.length = n ∧ (∀ s ∈ p.1, StepOk s) ∧ p.2.length = rs.length ∧ ((∀ r ∈ rs, RowOk r) → ∀ r ∈ p.2, RowOk r)
  | 0, p, h => by
    rw [List.mem_singleton.mp h]
    exact ⟨rfl, ⟨fun s hs => absurd hs (by simp), rfl, fun h => h⟩⟩
  | n + 1, p, h => by
    obtain ⟨q, hq, h⟩ := List.mem_flatMap.mp h
    obtain ⟨s, hs, rfl⟩ := List.mem_map.mp h
    obtain ⟨a1, a2, a3, a4⟩ := layL_ok n q hq
    refine ⟨by simp [a1], fun t ht => ?_, by simp [a3], fun hr r hr' => ?_⟩
    · rcases List.mem_append.mp ht with ht | ht
      · exact a2 t ht
      · rw [List.mem_singleton.mp ht]; exact stepsL_ok hs
    · obtain ⟨r0, h0, rfl⟩ := List.mem_map.mp hr'
      obtain ⟨b1, b2, b3⟩ := a4 hr r0 h0
      exact ⟨b1, plcBy_lt (stepOrd (stepsL_ok hs)) b2, b3⟩
def tupL : Nat → List (List (List Int))
  | 0 => [[]]
  | n + 1 => (tupL n).flatMap fun r => stepsL.map fun s => r ++ [s]
def behS (r : List (List Int)) (q : Row) : Row := (q.1, plcS r q.1 q.2.1, q.2.2)
theorem layL_eq (rs : List Row) : ∀ n, layL rs n = (tupL n).map fun r => (r, rs.map (behS r))
  | 0 => by
    have e : rs.map (behS []) = rs := by
      have : behS [] = id := by funext q; rfl
      rw [this, List.map_id]
    show [([], rs)] = [([], rs.map (behS []))]
    rw [e]
  | n + 1 => by
    rw [layL, tupL, layL_eq rs n, List.flatMap_map, List.map_flatMap]
    congr 1; funext r
    rw [List.map_map]
    refine List.map_congr_left fun s _ => ?_
    simp only [Function.comp]
    congr 1
    rw [List.map_map]
    refine List.map_congr_left fun q _ => ?_
    simp only [Function.comp, behR, behS, plcS, List.foldl_append, List.foldl_cons, List.foldl_nil]
def fitP (rs : List Row) (r : List (List Int)) : Bool := rs.all fun q => decide (plcS r q.1 q.2.1 = q.2.2)
theorem fndF_eq (rs : List Row) (n : Nat) : fndF rs n = (tupL n).filter (fitP rs) := by
  unfold fndF
  rw [layL_eq, List.filter_map, List.map_map]
  have e : ((fun x : List (List Int) × List Row => x.1) ∘ fun r => (r, rs.map (behS r))) = id := rfl
  rw [e, List.map_id]
  refine List.filter_congr fun r _ => ?_
  simp only [Function.comp, fitsB, fitP, List.all_map]
  rfl
def dueL (most : Nat) : List (List (List Int)) := [[]] ++ (if 0 < most then everyL.map fun s => [s] else []) ++ (if 1 < most then everyL.flatMap fun a => everyL.map fun b => [a, b] else [])
theorem tup1 : tupL 1 = stepsL.map fun s => [s] := by simp [tupL]
theorem tup2 : tupL 2 = stepsL.flatMap fun a => stepsL.map fun b => [a, b] := by
  rw [tupL, tup1, List.flatMap_map]; rfl
theorem tups_perm {most : Nat} (h : most ≤ 2) : ((List.range (most + 1)).flatMap tupL).Perm (dueL most) := by
  have p1 : (tupL 1).Perm (everyL.map fun s => [s]) := by rw [tup1]; exact stepsL_perm.map _
  have p2 : (tupL 2).Perm (everyL.flatMap fun a => everyL.map fun b => [a, b]) := by
    rw [tup2]
    exact (stepsL_perm.flatMap_right _).trans (perm_flat _ fun a _ => stepsL_perm.map _)
  rcases (by omega : most = 0 ∨ most = 1 ∨ most = 2) with rfl | rfl | rfl
  · exact .refl _
  · have e : (List.range (1 + 1)).flatMap tupL = [[]] ++ tupL 1 := by simp [List.range_succ, tupL]
    rw [e]
    unfold dueL
    simpa using p1.cons []
  · have e : (List.range (2 + 1)).flatMap tupL = [[]] ++ tupL 1 ++ tupL 2 := by simp [List.range_succ, tupL]
    rw [e]
    unfold dueL
    rw [if_pos (by decide), if_pos (by decide)]
    exact ((List.Perm.refl _).append p1).append p2
theorem fitL_due (rs : List Row) {most : Nat} (h : most ≤ 2) : fitL rs most = sortR ((dueL most).filter (fitP rs)) := by
  unfold fitL
  refine sortR_uniq (sortR_pw _) ((sortR_perm _).trans ?_)
  have e : (List.range (most + 1)).flatMap (fndF rs) = ((List.range (most + 1)).flatMap tupL).filter (fitP rs) := by
    rw [List.filter_flatMap]
    congr 1; funext n
    exact fndF_eq rs n
  rw [e]
  exact (tups_perm h).filter _
end

section
open PySem PySem.Spec PyProof.Rows L2
open Evl (Ex)
section
open PySem.Calls PySem.W
variable {X : Cx}
def rSortedT (K : PySem.W.Frag) : List V → Hp → VK → Prop := fun vs H Q => ∃ (a : Addr) (xs : List V) (ds : List PyData) (R : V → PyData → Prop), vs = [V.ref a] ∧ SqL K H a xs ∧ EachIs R xs ds ∧ (∀ v d, R v d → L2.Dp K H v d) ∧ (∀ d ∈ ds, d.depth ≤ 8) ∧ AllAlike ds ∧ (Sortable ds ∨ ds.length < 2 ∨ ∃ r, ds = .tuple [] :: r ∧ ∀ d ∈ r, ∃ xs, d = .tuple xs) ∧
  ∀ (ys : List V) (p : Addr), EachIs R ys (sortD ds) → H p = none → Q (.ref p) (upd H p (.lst ys))
theorem cr_sortedT (hu : X.A.units + 64 < cLine) : CallR X (.builtin "sorted") (rSortedT X.K) := by
  intro pins s σ H vs us Q I r h
  obtain ⟨a, xs, ds, R, rfl, hs, hR, hD, hd, hal, hk, q⟩ := h
  obtain ⟨its, rv, hl, hz⟩ := I.list hs
  rw [Vals.ref1 r]
  have e := each_rel rv hR
  have fin : ∀ out : List Value, EachIs (fun u d => ∃ v, RelV v u ∧ R v d) out (sortD ds) → ∃ (v : V) (H' : Hp), Inv X pins σ H' { s with heap := PyProof.Rows.sortedAll s.heap its out.toArray } ∧ RelV v (.ref (s.heap.objs.size + 1)) ∧ Q v H' := fun out eo => by
    obtain ⟨ys, h1, h2⟩ := rel_each eo
    obtain ⟨ep, he'⟩ := PyProof.Rows.sortedAll_at s.heap its out.toArray
    have hlen : ys.length ≤ sizeLine := by
      have l1 : ys.length = (sortD ds).length := h2.length
      have l2 : xs.length = ds.length := hR.length
      rw [l1, List.length_mergeSort, ← l2]; exact hz
    exact ⟨.ref _, upd H (s.heap.objs.size + 1) (.lst ys), I.laid (t' := s.toks) (fun _ _ => PyProof.Rows.sortedAll_old) (Nat.le_succ _) ⟨hlen, out, ep, h1, he'⟩, rfl, q _ _ h2 (I.hok.fresh (Nat.le_succ _))⟩
  rcases hk with hk | hk | ⟨rr, rfl, hk⟩
  · have d1 : ∀ b, b ∈ ds → X.A.units + 2 + ((fun d : PyData => d) b).depth < cLine := fun d m => by
      have h8 : d.depth ≤ 8 := hd d m
      show X.A.units + 2 + d.depth < cLine
      exact Nat.lt_of_le_of_lt (Nat.add_le_add_left h8 _) (Nat.lt_of_le_of_lt (by omega : X.A.units + 2 + 8 ≤ X.A.units + 64) hu)
    have d2 : EachIs (fun v b => ∃ as, Reads s.heap v ((fun d : PyData => d) b) as) its ds := e.mono fun u d ⟨v, rr, hh⟩ => L2.Dp.reads I d v u (hD v d hh) rr
    have d3 : AllAlike (ds.map fun d : PyData => d) := by rw [List.map_id']; exact hal
    have d4 : Sortable (ds.map fun d : PyData => d) := by rw [List.map_id']; exact hk
    have d5 : ds.length ≤ sizeLine := by rw [← hR.length]; exact hz
    refine sorted_data (enc := fun d : PyData => d) (bs := ds) hl.isList e d2 d3 d4 d5 d1 ?_
    intro out _ eo
    exact fin out eo
  · have hl2 : its.length < 2 := by rw [e.length]; exact hk
    refine SrtO.sorted_ord srt_false hl.isList (by rw [← rv.length]; exact hz) (fun h2 => absurd h2 (by omega)) fun out h1 h2 => ?_
    have : out = its := by
      have hp := h2.perm
      exact perm_short hl2 hp
    subst this
    exact fin _ (by rw [sortD_short hk]; exact e)
  · have d1 : ∀ b, b ∈ PyData.tuple [] :: rr → X.A.units + 2 + b.depth < cLine := fun d m => by
      have h8 : d.depth ≤ 8 := hd d m
      exact Nat.lt_of_le_of_lt (Nat.add_le_add_left h8 _) (Nat.lt_of_le_of_lt (by omega : X.A.units + 2 + 8 ≤ X.A.units + 64) hu)
    have d2 : EachIs (fun v b => ∃ as, Reads s.heap v b as) its (.tuple [] :: rr) := e.mono fun u d ⟨v, rr, hh⟩ => L2.Dp.reads I d v u (hD v d hh) rr
    have d5 : (PyData.tuple [] :: rr).length ≤ sizeLine := by rw [← hR.length]; exact hz
    refine sorted_tup0 hl.isList e d2 hal hk d5 d1 ?_
    intro out _ eo
    exact fin out eo
end
section
variable {c : Cd} {N : List Str} {sc : Scope} {k : Nat} {Γ : Gx} {M : Mem} {P : D → Mem → Prop} {a : Expr} {p pos : Pos}
theorem e_sortedT (o : c.Ok N sc k) (hm : c.m.mg "sorted" = none) (hg : sc.names.lookup ("sorted" : Str) = some .globalImplicit)
    (na : starEach [a] c.X.env = (false, eval a c.X.env) :: starEach [] c.X.env) (n2 : (backTo pos (starEach [] c.X.env)).any (·.1) = false)
    (h : Ee c Γ M a fun x M1 => ∃ ds : List PyData, Rdd M1 x (.list ds) ∧ (∀ d ∈ ds, d.depth ≤ 8) ∧ PySem.W.AllAlike ds ∧ (PySem.W.Sortable ds ∨ ds.length < 2 ∨ ∃ r, ds = .tuple [] :: r ∧ ∀ d ∈ r, ∃ xs, d = .tuple xs) ∧ ∀ b : Addr, P (.own b) ((b, .lst (sortD ds)) :: M1)) :
    Ee c Γ M (.Call (.Name "sorted" p) [a] [] pos) P :=
  e_of (pe_callB (cr_sortedT (by have := o.room.units; omega)) (gl_of o hg) (by rw [o.mg]; exact hm) (by decide +kernel) (pa_cons pe_sem pa_nil na) (by decide) (by decide) na n2) fun σ H H1 Q tr sl qq => h σ H H1 _ tr sl fun d M1 v H' H2 p1 t1 e1 i1 => by
    obtain ⟨ds, hx, hd, hal, hk, p⟩ := p1
    obtain ⟨b, ws, rfl, h1, h2⟩ := rd_l t1 i1 hx
    refine ⟨b, ws, ds, fun v d => Dq c.G.K H' v d, rfl, by rw [o.K]; exact h1, each_of_dqa h2, fun v d hv => by rw [o.K]; exact rd_dp t1 (d := .p d) hv (.p _), hd, hal, hk, fun ys a1 hys ha => ?_⟩
    have t2 := t1.ok.newOwn (o := .lst ys) (c := .lst (sortD ds)) ha rfl ⟨_, upd_same, dqa_of_each hys⟩
    exact qq _ _ _ _ _ (p a1) (t1.trans t2) (e1.trans t2.ex) rfl
end
end

section
open PySem PySem.Spec PyProof.Rows L2
open Evl (Ex)
local macro_rules | `(tactic| walk_at "x") => `(tactic| ((with_reducible refine' e_sortedT (by assumption) ?a ?b ?c ?d ?_); (case a => assumption); (case b => rfl); (case c => rfl); (case d => rfl)))
section
variable {c : Cd} {N : List Str} {sc : Scope} {k : Nat} {Γ : Gx} {M : Mem} {nx_ : Gx → Mem → Prop} {rt_ : D → Mem → Prop} {bk_ ct_ : Gx → Mem → Prop}
theorem s_setCw {e : Expr} {x : Str} {i : Nat} {pos' pos : Pos} [hi : At N x i] (o : c.Ok N sc k) (hc : sc.names.lookup x = some .cell) (hv : c.lvl = true) (h : Ee c Γ M e fun d M1 => nx_ (Γ.set i (some d)) M1) : Es c Γ M (.Assign [.Name x pos'] e pos) ⟨nx_, rt_, bk_, ct_⟩ := by
  have hk : c.X.env.kindOf x = some .cell := by
    show c.X.env.scope.names.lookup x = _
    rw [o.esc]; exact hc
  refine s_set o (.inr hc) (.inr hv) ?_ h
  unfold swapsWith
  split
  · dsimp only
    rw [hk]
    show (pure (_ && false && _ && _) : Sem Bool) = _
    rw [Bool.and_false, Bool.false_and, Bool.false_and]
  · rfl
end
theorem es_impW {c : Cd} {Γ : Gx} {M : Mem} {st : Stmt} {n1 n2 : Gx → Mem → Prop} {rt_ : D → Mem → Prop} {bk_ ct_ : Gx → Mem → Prop} (h : Es c Γ M st ⟨n1, rt_, bk_, ct_⟩) (i : ∀ Γ' M', n1 Γ' M' → n2 Γ' M') : Es c Γ M st ⟨n2, rt_, bk_, ct_⟩ :=
  fun σ H H1 E tr sl r => h σ H H1 E tr sl ⟨fun Γ' M' σ' H' H2 p => r.nx Γ' M' σ' H' H2 (i Γ' M' p), r.rt, r.bk, r.ct⟩
section
variable {c : Cd} {N : List Str} {sc : Scope} {k : Nat} {Γ : Gx} {M : Mem} {elt t i j : Expr} {fs : List Expr} {gs : List Comprehension} {scope : Scope} {pos : Pos} {vs : List Nat} {n : Nat} {a : Addr} {acc : List PyData}
theorem er_lf {P : Mem → Prop} (ht : ∀ it acc env, compTurn (.ListComp elt gs scope pos) n it acc env = turnL (.ListComp elt gs scope pos) n t i elt fs it acc env) (hst : Starts c.X (.ListComp elt gs scope pos) n)
    (o : c.Ok N sc k) (hx : c.X.xe = fun _ _ => False)
    (h : Ei c Γ ((a, .lst acc) :: M) t i fun nn f Kp M1 => M1 = (a, .lst acc) :: M ∧ ∃ (tt : Nat → Bool) (g : Nat → PyData), acc.length + ((List.range nn).filter tt).length ≤ 99999 ∧ (∀ acc', Kp ((a, .lst acc') :: M)) ∧
      (∀ q acc', q < nn → Egv c (wipeE Γ vs) ((a, .lst acc') :: M) t (f q) vs fun Γ2 M2 => Ets c Γ2 M2 fs fun b M3 => b = tt q ∧ M3 = (a, .lst acc') :: M ∧ (b = true → Ee c Γ2 M3 elt fun y M4 => y = .p (g q) ∧ M4 = (a, .lst acc') :: M)) ∧
      P ((a, .lst (acc ++ ((List.range nn).filter tt).map g)) :: M)) : Er c Γ ((a, .lst acc) :: M) i (.ListComp elt gs scope pos) n a vs P := by
  intro σ H H1 Q tr sl q
  refine rest_l (wi := iSem c.X t i) (g := gSem c.X t) (tt := tsSem c.X fs) (te := eSem c.X elt) ht hst o.calm hx pi_sem pg_sem pts_sem pe_sem ?_
  refine h σ H H1 _ tr sl fun nn f Kp M1 It' H' H2 p1 tr1 e1 it => ?_
  obtain ⟨rfl, tt, g, hn, hk, hs, hd⟩ := p1
  have hl : ∀ i, i < nn → (acc ++ ((List.range i).filter tt).map g).length < 100000 := fun i hi => by
    rw [List.length_append, List.length_map]
    have h1 : ((List.range i).filter tt).length ≤ ((List.range nn).filter tt).length := by
      have e : List.range nn = List.range i ++ (List.range (nn - i)).map (i + ·) := by
        rw [← List.range_add]; congr 1; omega
      rw [e, List.filter_append, List.length_append]; omega
    omega
  refine ⟨fun i m Hq => m = nn - i ∧ i ≤ nn ∧ ∃ H'', Tr c.G c.B H'' Hq ((a, .lst (acc ++ ((List.range i).filter tt).map g)) :: M) ∧ Ex H' H'', ⟨nn, by simp, Nat.zero_le _, H', by simpa using tr1, Evl.Ex.refl H'⟩, ?_⟩
  rintro i m Hq ⟨rfl, hi, H'', t1, ex⟩
  obtain ⟨hstop, hgo⟩ := it i H'' Hq _ t1 ex (hk _)
  by_cases hlt : i < nn
  · obtain ⟨g1, g2⟩ := hgo hlt
    refine .inr ⟨g1, fun H6 => ∃ H5, Tr c.G c.B H5 H6 ((a, .lst (acc ++ ((List.range (i + 1)).filter tt).map g)) :: M) ∧ Ex H' H5, fun H6 p5 => ⟨nn - (i + 1), by omega, rfl, hlt, p5⟩, fun x Hp' y => ?_⟩
    obtain ⟨H3, t3, e3, i3⟩ := g2 x Hp' y
    refine hs i _ hlt (L2.wipe σ vs) H3 Hp' x _ t3 ((sl.mono ((e1.trans ex).trans e3)).wipe vs) i3 fun Γ2 M2 σ2 H4 H5 p2 t2 x2 s2 hw => ⟨by rw [hw, wipe_wipe fun v hv => hv], ?_⟩
    refine p2 σ2 H4 H5 _ t2 s2 fun b M3 H6 H7 p6 t6 x6 => ?_
    obtain ⟨hb, rfl, p6⟩ := p6
    have e6 : Ex H' H6 := ((ex.trans e3).trans x2).trans x6
    cases b with
    | false =>
      rw [if_neg Bool.false_ne_true]
      refine ⟨H6, ?_, e6⟩
      rw [List.range_succ, List.filter_append, List.filter_cons_of_neg (by rw [← hb]; decide), List.filter_nil, List.append_nil]
      exact t6
    | true =>
      rw [if_pos rfl]
      refine p6 rfl σ2 H6 H7 _ t6 (s2.mono x6) fun y M4 w H8 H9 p8 t8 x8 i8 => ?_
      obtain ⟨rfl, rfl⟩ := p8
      obtain ⟨ws, w1, w2, w3⟩ := tr_put t8 i8 (hl i hlt)
      refine ⟨ws, w1, w2, H8, ?_, e6.trans x8⟩
      rw [List.range_succ, List.filter_append, List.filter_cons_of_pos hb.symm, List.filter_nil, List.map_append, ← List.append_assoc]
      exact w3
  · have e : i = nn := by omega
    subst e
    exact .inl ⟨hstop (Nat.le_refl _), q _ H'' Hq hd t1 (e1.trans ex)⟩
end
theorem sq_frzS {c : Cd} {Γ : Gx} {M : Mem} {D' : De} {t : TS} {i j : Nat} {a : Addr} {ds : List PyData} (hM : M[j]? = some (a, Cell.lst ds)) (hΓ : Γ[i]? = some (some (.own a))) (h : Sq c t (Γ.set i (some (dL ds))) (M.eraseIdx j) D') : Sq c t Γ M D' := fun σ H H1 E tr sl r => by
  obtain ⟨vs, t2, d2⟩ := tr.ok.freeze hM
  obtain ⟨v, hv, iv⟩ := sl.at_ i _ hΓ
  have ev : v = .ref a := iv
  subst ev
  have es : σ.set i (some (.ref a)) = σ := by
    apply List.ext_getElem?
    intro n
    by_cases e : i = n
    · subst e
      rw [List.getElem?_set_self (List.getElem?_eq_some_iff.mp hv).1, hv]
    · rw [List.getElem?_set_ne e]
  have s2 := (sl.mono t2.ex).set i (v := .ref a) (d := dL ds) d2
  rw [es] at s2
  exact h σ _ H1 E (tr.trans t2) s2 ⟨fun Γ' M' σ' H' H2 p t ex => r.nx Γ' M' σ' H' H2 p t (t2.ex.trans ex), fun d M' v H' H2 p t ex => r.rt d M' v H' H2 p t (t2.ex.trans ex), fun Γ' M' σ' H' H2 p t ex => r.bk Γ' M' σ' H' H2 p t (t2.ex.trans ex), fun Γ' M' σ' H' H2 p t ex => r.ct Γ' M' σ' H' H2 p t (t2.ex.trans ex)⟩
def layD (p : List (List Int) × List Row) : PyData := .tuple [ssD p.1, .list (p.2.map rowR)]
def phFit (I J : Addr) : Phi := fun ds M P R => ∃ (x : D) (d : PyData), ds = [x, .p d] ∧
  ((isInt d 0 2 = false ∧ R I [] M) ∨
   (isInt d 0 2 = true ∧ ∃ (ts : List PyData) (i : Nat), RdS M x ts ∧ i < ts.length ∧ (∀ j, j < i → seenB (ts.getD j .none) = true) ∧ seenB (ts.getD i .none) = false ∧ R J [("index", natI i)] M) ∨
   (∃ (most : Nat) (rs : List Row), d = .int most ∧ most ≤ 2 ∧ RdS M x (rs.map rowR) ∧ rs.length ≤ 99999 ∧ (∀ r ∈ rs, RowOk r) ∧ ∀ a, P (.own a) ((a, .lst ((fitL rs most).map ssD)) :: M)))
theorem range_getDw {α : Type} (l : List α) (d : α) : (List.range l.length).map (fun q => l.getD q d) = l := by
  apply List.ext_getElem
  · simp
  · intro i h1 h2
    rw [List.getElem_map, List.getElem_range, getD_at h2]
theorem flat_getDw {α β : Type} {l : List α} {d : α} {G : α → List β} : (List.range l.length).flatMap (fun q => G (l.getD q d)) = l.flatMap G := by
  conv => rhs; rw [← range_getDw l d, List.flatMap_map]
theorem filter_getDw {α β : Type} {xs : List α} {d : α} {p : α → Bool} {f : α → β} : ((List.range xs.length).filter fun j => p (xs.getD j d)).map (fun j => f (xs.getD j d)) = (xs.filter p).map f := by
  conv => rhs; rw [← range_getDw xs d, List.filter_map, List.map_map]
  rfl
theorem dep_ssDw (ss : List (List Int)) : (ssD ss).depth ≤ 2 := by
  have h := dep_all sC ss
  show (PyData.tuple (ss.map sC.d)).depth ≤ 2
  simp only [PyData.depth]; exact Nat.succ_le_succ h
theorem fnd_len {rs : List Row} (n : Nat) : ∀ r ∈ fndF rs n, r.length = n := fun r h => by
  obtain ⟨p, hp, rfl⟩ := List.mem_map.mp h
  exact (layL_ok n p (List.mem_filter.mp hp).1).1
theorem fnd_tail {rs : List Row} (most : Nat) : ∀ r ∈ ((List.range most).map (· + 1)).flatMap (fndF rs), r ≠ [] := fun r h => by
  obtain ⟨n, hn, h⟩ := List.mem_flatMap.mp h
  obtain ⟨q, _, rfl⟩ := List.mem_map.mp hn
  have := fnd_len _ r h
  intro z; rw [z] at this; cases this
theorem fnd_srt {rs : List Row} {most : Nat} (h : most ≤ 2) : PySem.W.Sortable (((List.range (most + 1)).flatMap (fndF rs)).map ssD) ∨ (((List.range (most + 1)).flatMap (fndF rs)).map ssD).length < 2 ∨
    ∃ r, ((List.range (most + 1)).flatMap (fndF rs)).map ssD = .tuple [] :: r ∧ ∀ d ∈ r, ∃ xs, d = .tuple xs := by
  have e : (List.range (most + 1)).flatMap (fndF rs) = fndF rs 0 ++ ((List.range most).map (· + 1)).flatMap (fndF rs) := by
    rw [List.range_succ_eq_map, List.flatMap_cons]
  have ht := fnd_tail (rs := rs) most
  rw [e]
  generalize ((List.range most).map (· + 1)).flatMap (fndF rs) = T at ht
  have e0 : fndF rs 0 = if fitsB rs = true then [[]] else [] := by
    by_cases hf : fitsB rs = true
    · simp [fndF, layL, hf]
    · simp [fndF, layL, hf]
  rw [e0]
  by_cases hf : fitsB rs = true
  · rw [if_pos hf]
    refine .inr (.inr ⟨T.map ssD, rfl, fun d hd => ?_⟩)
    obtain ⟨r, _, rfl⟩ := List.mem_map.mp hd
    exact ⟨_, rfl⟩
  · rw [if_neg hf, List.nil_append]
    exact .inl (sortable_ssD ht)
theorem allP_snoc (q : PyData) : ∀ ps : List PyData, allP (ps.map D.p ++ [D.p q]) = some (ps ++ [q])
  | [] => rfl
  | p :: ps => by
    show (allP (ps.map D.p ++ [D.p q])).map _ = _
    rw [allP_snoc q ps]; rfl
theorem steps_rng : (List.range 3).flatMap (fun q => ((allS (q + 1)).filter fun s => decide (s ≠ [1])).map sD) = stepsL.map sD := by
  unfold stepsL
  rw [List.map_flatMap, show ([1, 2, 3] : List Nat) = (List.range 3).map (· + 1) from rfl, List.flatMap_map]
theorem ok_fitting {m : Md} {f I J : Addr} {fd : FuncData} {k j1 j2 : Nat} (F : Fun m.K "fitting" "fitting" S_fitting f fd) (F1 : Fd m CX0 k "is_integer" phII) (F2 : Fd m CX0 k "is_seen" phSeen) (F3 : Fd m CX0 k "all_steps" phSteps) (F4 : Fd m CX0 k "behind_step" phBehind) (F5 : Fd m CX0 k "fits" phFits)
    (EI : ErrK m j1 "InvalidLimit" I (sp0 I)) (hj1 : j1 + 1 ≤ k) (EJ : ErrK m j2 "InvalidSeen" J (sp1 J "index")) (hj2 : j2 + 1 ≤ k) (g2 : GlD m "MOST_FITTING" (dI 2)) (g3 : GlD m "MOST_WIDE" (dI 3)) (g4 : GlD m "SAME" (.p (sD [1])))
    (m1 : m.mg "enumerate" = none) (m2 : m.mg "range" = none) (m3 : m.mg "list" = none) (m4 : m.mg "sorted" = none) :
    FnOk m.P m.w m.K m.mg m.base (L2.CX m.P m.w) (k + 1) f fd A_fitting (spOf m.G (phFit I J)) := by
  refine fn_okX F sc_fitting (fun ds M P R h => by obtain ⟨x, y, rfl, _⟩ := h; rfl) (fun c ds M P R hc o hl hR h => ?_)
  subst hc
  obtain ⟨x, d, rfl, h⟩ := h
  show Eb c [some x, some (.p d), none, none, none, none, none, none, none, none, none, none] M _ _
  refine b_cons' (by rfl) ?_
  repeat walk_at "x"
  refine ⟨d, 0, _, rfl, ?_⟩
  refine ⟨_, rfl, fun hb => ?_, fun hb => ?_⟩
  · have hb : isInt d 0 2 = false := by simpa using hb
    rcases h with ⟨_, h⟩ | ⟨h, _⟩ | ⟨most, rs, rfl, hm, _⟩
    · repeat walk_at "x"
      refine s_raise0 EI o hj1 rfl (by decide) ?_
      rw [hR]
      exact h
    · rw [h] at hb; cases hb
    · simp only [isInt, Bool.and_eq_false_iff, decide_eq_false_iff_not] at hb; omega
  have hb : isInt d 0 2 = true := by simpa using hb
  rcases h with ⟨h, _⟩ | ⟨_, ts, i0, hx, hi0, hg, hz, hr⟩ | ⟨most, rs, rfl, hm, hx, hn, hrs, p⟩
  · rw [h] at hb; cases hb
  · repeat ((fail_if_success (with_reducible show Eb _ _ _ (.For _ _ _ _ _ :: _) _)); walk_at "x")
    refine b_cons ?_
    refine es_impW (n1 := fun _ _ => False) ?_ fun _ _ z => z.elim
    rcases hx with hx | rfl
    · repeat walk_at "x"
      refine i_enumL o m1 rfl rfl ?_
      repeat walk_at "x"
      refine ⟨_, _, rfl, hx, ?_⟩
      refine ⟨fun i Γ' M' => (i ≤ i0 ∧ ∃ y z, Γ' = [some x, some (.p d), y, z, none, none, none, none, none, none, none, none] ∧ M' = M), ⟨Nat.zero_le _, _, _, rfl, rfl⟩, fun i Γ' M' _ hj => (by obtain ⟨_, y, z, _, rfl⟩ := hj; exact hx), fun i Γ' M' hi hj => ?_, fun Γ' M' hj => ?_⟩
      · obtain ⟨hi2, y, z, rfl, rfl⟩ := hj
        dsimp only
        repeat walk_at "x"
        refine ⟨_, rfl, _, rfl, fun hw => ?_, fun hw => ?_⟩
        · have hw : seenB (ts.getD i .none) = false := by simpa using hw
          have hii : i = i0 := by
            rcases Nat.lt_or_eq_of_le hi2 with h | h
            · rw [hg i h] at hw; cases hw
            · exact h
          subst hii
          repeat walk_at "x"
          refine s_raise1 EJ o hj2 rfl (by decide) rfl ?_
          repeat walk_at "x"
          rw [hR]
          exact hr
        · have hw : seenB (ts.getD i .none) = true := by simpa using hw
          repeat walk_at "x"
          refine ⟨?_, _, _, rfl, rfl⟩
          rcases Nat.lt_or_eq_of_le hi2 with h | h
          · exact h
          · rw [h, hz] at hw; cases hw
      · obtain ⟨hi2, _⟩ := hj
        omega
    · repeat walk_at "x"
      refine i_enumT o m1 rfl rfl ?_
      repeat walk_at "x"
      refine ⟨fun i Γ' M' => (i ≤ i0 ∧ ∃ y z, Γ' = [some (dT ts), some (.p d), y, z, none, none, none, none, none, none, none, none] ∧ M' = M), ⟨Nat.zero_le _, _, _, rfl, rfl⟩, fun i Γ' M' _ hj => (by obtain ⟨_, y, z, _, rfl⟩ := hj; exact trivial), fun i Γ' M' hi hj => ?_, fun Γ' M' hj => ?_⟩
      · obtain ⟨hi2, y, z, rfl, rfl⟩ := hj
        dsimp only
        repeat walk_at "x"
        refine ⟨_, rfl, _, rfl, fun hw => ?_, fun hw => ?_⟩
        · have hw : seenB (ts.getD i .none) = false := by simpa using hw
          have hii : i = i0 := by
            rcases Nat.lt_or_eq_of_le hi2 with h | h
            · rw [hg i h] at hw; cases hw
            · exact h
          subst hii
          repeat walk_at "x"
          refine s_raise1 EJ o hj2 rfl (by decide) rfl ?_
          repeat walk_at "x"
          rw [hR]
          exact hr
        · have hw : seenB (ts.getD i .none) = true := by simpa using hw
          repeat walk_at "x"
          refine ⟨?_, _, _, rfl, rfl⟩
          rcases Nat.lt_or_eq_of_le hi2 with h | h
          · exact h
          · rw [h, hz] at hw; cases hw
      · obtain ⟨hi2, _⟩ := hj
        omega
  · repeat ((fail_if_success (with_reducible show Eb _ _ _ (.For _ _ _ _ _ :: _) _)); walk_at "x")
    refine b_cons ?_
    have hgs : ∀ i, i < (rs.map rowR).length → seenB ((rs.map rowR).getD i .none) = true := fun i hi => by
      rw [List.length_map] at hi
      rw [getD_map hi]
      exact seen_row (hrs _ (List.getElem_mem hi))
    refine es_impW (n1 := fun Γ' M' => ∃ y z, Γ' = [some x, some (dI most), y, z, none, none, none, none, none, none, none, none] ∧ M' = M) ?_ fun Γ' M' h => ?_
    · generalize rs.map rowR = ts at hx hgs
      rcases hx with hx | rfl
      · repeat walk_at "x"
        refine i_enumL o m1 rfl rfl ?_
        repeat walk_at "x"
        refine ⟨_, _, rfl, hx, ?_⟩
        refine ⟨fun i Γ' M' => (∃ y z, Γ' = [some x, some (.p (.int (most : Int))), y, z, none, none, none, none, none, none, none, none] ∧ M' = M), ⟨_, _, rfl, rfl⟩, fun i Γ' M' _ hj => (by obtain ⟨y, z, _, rfl⟩ := hj; exact hx), fun i Γ' M' hi hj => ?_, fun Γ' M' hj => ?_⟩
        · obtain ⟨y, z, rfl, rfl⟩ := hj
          have hsr := hgs i hi
          dsimp only
          repeat walk_at "x"
          refine ⟨_, rfl, _, rfl, fun hw => ?_, fun hw => ?_⟩
          · rw [hsr] at hw; cases hw
          · repeat walk_at "x"
            exact ⟨_, _, rfl, rfl⟩
        · obtain ⟨y, z, rfl, rfl⟩ := hj
          exact ⟨_, _, rfl, rfl⟩
      · repeat walk_at "x"
        refine i_enumT o m1 rfl rfl ?_
        repeat walk_at "x"
        refine ⟨fun i Γ' M' => (∃ y z, Γ' = [some (dT ts), some (.p (.int (most : Int))), y, z, none, none, none, none, none, none, none, none] ∧ M' = M), ⟨_, _, rfl, rfl⟩, fun i Γ' M' _ hj => (by obtain ⟨y, z, _, rfl⟩ := hj; exact trivial), fun i Γ' M' hi hj => ?_, fun Γ' M' hj => ?_⟩
        · obtain ⟨y, z, rfl, rfl⟩ := hj
          have hsr := hgs i hi
          dsimp only
          repeat walk_at "x"
          refine ⟨_, rfl, _, rfl, fun hw => ?_, fun hw => ?_⟩
          · rw [hsr] at hw; cases hw
          · repeat walk_at "x"
            exact ⟨_, _, rfl, rfl⟩
        · obtain ⟨y, z, rfl, rfl⟩ := hj
          exact ⟨_, _, rfl, rfl⟩
    obtain ⟨y, z, rfl, rfl⟩ := h
    refine sq_ret ?_
    refine b_cons ?_
    refine s_setCw o rfl hl (e_frz ?_)
    refine e_lcR [("wide", 5), ("step", 6)] [6] o rfl (by decide) (fun _ => rfl) (fun _ _ _ => turn2_0) (fun _ _ => rfl) ?_
    repeat walk_at "x"
    refine ⟨_, _, rfl, ⟨by omega, by omega⟩, ⟨by decide, by decide⟩, ?_⟩
    rw [show ((3 : Int) + 1 - 1).toNat = 3 from rfl]
    refine ⟨fun q => ((allS (q + 1)).filter fun s => decide (s ≠ [1])).map sD, ?_, fun acc a => trivial, fun q acc a hq hlen X1 o1 => ?_, fun a => ?_⟩
    · rw [steps_rng, List.length_map, stepsL_len]; decide
    · dsimp only at hlen ⊢
      rw [show (1 : Int) + (q : Int) = ((q + 1 : Nat) : Int) by omega]
      have hq1 : 1 ≤ q + 1 ∧ q + 1 ≤ 3 := by omega
      generalize q + 1 = w at hlen hq1 ⊢
      have l1 := allS_48w hq1.1 hq1.2
      repeat walk_at "x"
      intro X2 o2 hx2
      refine er_lf (fun _ _ _ => turn2_1) starts2 o2 hx2 ?_
      refine i_list o2 (e_frz ?_)
      repeat walk_at "x"
      refine ⟨w, rfl, hq1, fun b => ⟨b, _, 0, rfl, rfl, ⟨_, .p _, rfl, ?_⟩⟩⟩
      rw [List.length_map]
      have hfl : ((List.range (allS w).length).filter fun i => decide ((allS w).getD i [] ≠ [1])).map (fun i => sD ((allS w).getD i [])) = ((allS w).filter fun s => decide (s ≠ [1])).map sD := filter_getDw (p := fun s => decide (s ≠ [1])) (f := sD)
      have hfl2 : ((List.range (allS w).length).filter fun i => decide ((allS w).getD i [] ≠ [1])).length = (((allS w).filter fun s => decide (s ≠ [1])).map sD).length := by rw [← hfl, List.length_map]
      refine ⟨fun i => decide ((allS w).getD i [] ≠ [1]), fun i => sD ((allS w).getD i []), by rw [hfl2]; exact hlen, fun acc' => .p _, fun i acc' hi => ?_, ?_⟩
      · dsimp only
        rw [getD_map hi, getD_at hi]
        generalize (allS w)[i] = s
        repeat walk_at "x"
        refine on_c sC s [1] (.p _) (.p _) rfl ?_
        refine ⟨_, rfl, by simp, rfl, fun _ => ?_⟩
        repeat walk_at "x"
        exact ⟨rfl, rfl⟩
      · rw [hfl]
    · rw [steps_rng]
      refine ⟨a, _, 0, rfl, rfl, ?_⟩
      have eM : ((a, Cell.lst (List.map sD stepsL)) :: M').eraseIdx 0 = M' := rfl
      rw [eM]
      show Eb c [some x, some (dI most), y, z, some (dL (stepsL.map sD)), none, none, none, none, none, none, none] M' _ _
      refine b_cons' (by rfl) ?_
      repeat walk_at "x"
      refine e_lst ?_
      repeat ((fail_if_success (with_reducible show Ee _ _ _ (.Call _ _ _ _) _)); walk_at "x")
      refine e_frz ?_
      repeat walk_at "x"
      refine c_list (ds := rs.map rowR) hx fun b => ?_
      refine ⟨b, _, 0, rfl, rfl, ?_⟩
      repeat walk_at "x"
      refine e_lstO ?_
      repeat walk_at "x"
      intro fb
      repeat walk_at "x"
      refine ⟨_, _, rfl, ?_⟩
      have eM2 : ((b, Cell.lst (List.map rowR rs)) :: M').eraseIdx 0 = M' := rfl
      rw [eM2]
      show Eb c [some x, some (dI most), y, z, some (dL (stepsL.map sD)), none, none, some (dL ((layL rs 0).map layD)), some (.own fb), none, none, none] ((fb, Cell.lst []) :: M') _ _
      repeat walk_at "x"
      refine ⟨⟨by omega, by omega⟩, ?_⟩
      rw [show ((most : Int) + 1).toNat = most + 1 by omega]
      refine ⟨fun i Γ' M2 => ∃ fb L y9 y10 y11, Γ' = [some x, some (dI most), y, z, some (dL (stepsL.map sD)), none, none, some (dL (L.map layD)), some (.own fb), y9, y10, y11] ∧ (i ≤ most → L = layL rs i) ∧ M2 = (fb, Cell.lst (((List.range i).flatMap (fndF rs)).map ssD)) :: M', ⟨fb, _, _, _, _, rfl, fun _ => rfl, rfl⟩, fun _ _ _ _ _ => trivial, fun i Γ' M2 hi hj => ?_, fun Γ' M2 hj => ?_⟩
      rotate_left
      · obtain ⟨fb, L, y9, y10, y11, rfl, hL, rfl⟩ := hj
        repeat walk_at "x"
        refine ⟨_, .own (.head _), fun q hq => ?_, allAlike_ssD _, ?_, fun b4 => ?_⟩
        · obtain ⟨r, _, rfl⟩ := List.mem_map.mp hq
          exact Nat.le_trans (dep_ssDw r) (by decide)
        · exact fnd_srt hm
        · rw [sortD_ssD]
          exact ⟨_, Conv.sub (.cons_cons _ (.cons _ (.refl _))), p b4⟩
      obtain ⟨fb, L, y9, y10, y11, rfl, hL, rfl⟩ := hj
      have hL := hL (by omega)
      subst hL
      have hll : (layL rs i).length ≤ 3249 := by
        rw [layL_len]
        have : i = 0 ∨ i = 1 ∨ i = 2 := by omega
        rcases this with rfl | rfl | rfl <;> decide
      have hll2 : i < most → (layL rs i).length ≤ 57 := fun h => by
        rw [layL_len]
        have : i = 0 ∨ i = 1 := by omega
        rcases this with rfl | rfl <;> decide
      have hFL : ((List.range i).flatMap (fndF rs)).length ≤ (List.range i).length * 3249 := flat_lenV _ fun j hj => by
        have hj := List.mem_range.mp hj
        unfold fndF
        rw [List.length_map]
        refine Nat.le_trans (List.length_filter_le _ _) ?_
        rw [layL_len]
        have : j = 0 ∨ j = 1 := by omega
        rcases this with rfl | rfl <;> decide
      rw [List.length_range] at hFL
      have hFI : (fndF rs i).length ≤ 3249 := by
        unfold fndF
        rw [List.length_map]
        exact Nat.le_trans (List.length_filter_le _ _) hll
      have hlo := layL_ok (rs := rs) i
      have hfs : (List.range (i + 1)).flatMap (fndF rs) = (List.range i).flatMap (fndF rs) ++ fndF rs i := by
        rw [List.range_succ, List.flatMap_append]; simp
      have hfe : fndF rs i = ((layL rs i).filter fun p => fitsB p.2).map (·.1) := rfl
      have hln : i < most → layL rs (i + 1) = (layL rs i).flatMap fun p => stepsL.map fun s => (p.1 ++ [s], p.2.map (behR s)) := fun _ => rfl
      generalize fndF rs i = FI at hfe hfs hFI
      generalize layL rs i = L at hll hll2 hlo hfe hln ⊢
      generalize (List.range i).flatMap (fndF rs) = FF at hfs hFL ⊢
      repeat walk_at "x"
      refine ⟨fb, _, rfl, .head _, ?_⟩
      refine e_lcF [("done", 10), ("rows", 11)] o rfl (fun _ => rfl) ?_
      refine i_list o ?_
      repeat walk_at "x"
      rw [List.length_map]
      refine ⟨fun j => fitsB (L.getD j ([], [])).2, fun j => ssD (L.getD j ([], [])).1, by omega, fun acc a => .p _, fun j acc a hj X1 o1 => ?_, fun a2 => ?_⟩
      · have hpj := hlo _ (List.getElem_mem hj)
        dsimp only
        rw [getD_map hj, getD_at hj]
        generalize L[j] = pr at hpj
        obtain ⟨dn, rr⟩ := pr
        dsimp only at hpj
        unfold layD
        repeat walk_at "x"
        intro X2 o2
        repeat walk_at "x"
        refine ⟨_, rr, rfl, .p _, by have := hpj.2.2.1; omega, ?_⟩
        refine ⟨_, rfl, rfl, rfl, fun _ X3 o3 => ?_⟩
        repeat walk_at "x"
        exact ⟨rfl, rfl⟩
      · have he : ((List.range L.length).filter fun j => fitsB (L.getD j ([], [])).2).map (fun j => ssD (L.getD j ([], [])).1) = FI.map ssD := by
          rw [hfe, List.map_map]
          exact filter_getDw (p := fun q : List (List Int) × List Row => fitsB q.2) (f := fun q => ssD q.1)
        rw [he]
        refine ⟨1, _, FI.map ssD, rfl, .own (.head _), by rw [List.length_map, List.length_map]; omega, ?_⟩
        refine sq_conv (M2 := (fb, Cell.lst (FF.map ssD ++ FI.map ssD)) :: M') Conv.drop ?_
        rw [← List.map_append, ← hfs]
        show Eb c [some x, some (dI most), y, z, some (dL (stepsL.map sD)), none, none, some (dL (L.map layD)), some (.own fb), some (dI i), y10, y11] _ _ _
        refine b_cons ?_
        refine es_impW (n1 := fun Γ' M2 => ∃ L' y9 y10 y11, Γ' = [some x, some (dI most), y, z, some (dL (stepsL.map sD)), none, none, some (dL (L'.map layD)), some (.own fb), y9, y10, y11] ∧ (i < most → L' = layL rs (i + 1)) ∧ M2 = (fb, Cell.lst (((List.range (i + 1)).flatMap (fndF rs)).map ssD)) :: M') ?_ fun Γ' M2 h => ?_
        · repeat walk_at "x"
          refine ⟨fun hz => ?_, fun hz => ?_⟩
          · have hz : i < most := by have := of_decide_eq_true hz; omega
            have hln := hln hz
            have hll2 := hll2 hz
            rw [hln]
            refine b_cons ?_
            refine s_setLcR [("done", 10), ("rows", 11), ("step", 6)] [6] o rfl rfl (by decide) (fun _ => rfl) rfl rfl rfl (fun _ _ _ => turn2_0) (fun _ _ => rfl) ?_
            refine i_list o ?_
            repeat walk_at "x"
            rw [List.length_map]
            refine ⟨fun q => (stepsL.map fun s => layD ((L.getD q ([], [])).1 ++ [s], (L.getD q ([], [])).2.map (behR s))), ?_, fun acc a => .p _, fun q acc a3 hq hlen X1 o1 => ?_, fun a3 => ?_⟩
            · rw [flat_lenW (n := 57) _ fun q _ => by rw [List.length_map, stepsL_len], List.length_range]; omega
            · have hpj := hlo _ (List.getElem_mem hq)
              dsimp only at hlen ⊢
              rw [getD_map hq]
              rw [getD_at hq] at hlen ⊢
              generalize L[q] = pr at hpj hlen ⊢
              obtain ⟨dn, rr⟩ := pr
              dsimp only at hpj
              obtain ⟨pj1, pj2, pj3, pj4⟩ := hpj
              have pj4 := pj4 hrs
              have hsl := stepsL_len
              have hso := @stepsL_ok
              unfold layD
              repeat walk_at "x"
              intro X2 o2 hx2
              refine er_lf (fun _ _ _ => turn2_1) starts2 o2 hx2 ?_
              refine i_list o2 ?_
              repeat walk_at "x"
              refine ⟨rfl, ?_⟩
              rw [List.length_map] at hlen ⊢
              generalize stepsL = SL at hsl hso hlen ⊢
              refine ⟨fun _ => true, fun q => layD (dn ++ [SL.getD q []], rr.map (behR (SL.getD q []))), by rw [filter_true, List.length_range]; exact hlen, fun acc' => .p _, fun q2 acc' hq2 => ?_, ?_⟩
              · have hs := hso (List.getElem_mem hq2)
                dsimp only
                rw [getD_map hq2, getD_at hq2]
                generalize SL[q2] = s at hs
                repeat walk_at "x"
                refine ⟨rfl, rfl, fun _ => ?_⟩
                repeat walk_at "x"
                refine ⟨_, .inr rfl, ?_⟩
                repeat walk_at "x"
                refine ⟨_, allP_snoc _ _, Nat.ble_eq_true_of_le (by rw [List.length_append, List.length_map]; show dn.length + 1 ≤ _; omega), ?_⟩
                repeat ((fail_if_success (with_reducible show Ee _ _ _ (.Call _ _ _ _) _)); walk_at "x")
                refine e_frz ?_
                repeat walk_at "x"
                refine ⟨s, _, rr, rfl, hs, .p _, by omega, pj4, fun b5 => ⟨b5, _, 0, rfl, rfl, ?_⟩⟩
                repeat walk_at "x"
                refine ⟨?_, rfl⟩
                show D.p (.tuple [.tuple (dn.map sD ++ [sD s]), .list ((rr.map (behR s)).map rowR)]) = _
                rw [layD]
                show _ = D.p (.tuple [.tuple ((dn ++ [s]).map sD), .list ((rr.map (behR s)).map rowR)])
                rw [List.map_append]; rfl
              · rw [filter_true, range_map_get (xs := SL) (f := fun s => layD (dn ++ [s], rr.map (behR s))) fun i hi => by rw [getD_at hi]]
                rfl
            · have he2 : (List.range L.length).flatMap (fun q => stepsL.map fun s => layD ((L.getD q ([], [])).1 ++ [s], (L.getD q ([], [])).2.map (behR s))) = (L.flatMap fun p => stepsL.map fun s => (p.1 ++ [s], p.2.map (behR s))).map layD := by
                rw [flat_getDw (l := L) (G := fun p : List (List Int) × List Row => stepsL.map fun s => layD (p.1 ++ [s], p.2.map (behR s))), List.map_flatMap]
                congr 1; funext p
                rw [List.map_map]; rfl
              rw [he2, ← hln]
              dsimp only
              refine sq_frzS (i := 7) (j := 0) (a := a3) rfl rfl ?_
              exact b_nil ⟨layL rs (i + 1), _, _, _, rfl, fun _ => rfl, rfl⟩
          · have hz : ¬ i < most := by have := of_decide_eq_false hz; omega
            exact b_nil ⟨L, _, _, _, rfl, fun z => absurd z hz, rfl⟩
        · obtain ⟨L', y9, y10, y11, rfl, hL', rfl⟩ := h
          exact b_nil ⟨fb, L', _, _, _, rfl, fun h => hL' (by omega), rfl⟩
end

section
open PySem PySem.Spec PyProof.Rows L2
open Evl (Ex)
structure ClsB (m : Md) (B : Addr) (nm : Str) : Prop where
  cls : Cls m.K B
  g : m.mg nm = some (.ref B)
structure MkB (m : Md) (B : Addr) (k : Nat) (φ : Phi) : Prop where
  ex : ∃ f, L2.Mk m.K B f ∧ FnA m k f φ
structure PrB (m : Md) (B : Addr) (k : Nat) (x : Str) (φ : Phi) : Prop where
  ex : ∃ p f, PropOf m.K B x p f ∧ FnA m k f φ
structure MtB (m : Md) (B : Addr) (k : Nat) (x : Str) (φ : Phi) : Prop where
  ex : ∃ f, Meth m.K B x f ∧ FnA m k f φ
structure SpB (m : Md) (B : Addr) (k : Nat) (x : Str) (φ : Phi) : Prop where
  ex : ∃ f, PySem.W.findIn m.K (.ref B) x = some (some (.ref f)) ∧ PySem.W.isFn m.K (.ref f) = true ∧ FnA m k f φ
def putFD (f : Str) (d : D) : List (Str × D) → List (Str × D)
  | [] => [(f, d)]
  | (g, x) :: r => if g = f then (g, d) :: r else (g, x) :: putFD f d r
abbrev FldR (G : Gm) (H : Hp) : Str × V → Str × D → Prop := fun p q => p.1 = q.1 ∧ Is G H p.2 q.2
theorem fld_put {G : Gm} {H : Hp} {f : Str} {v : V} {d : D} (hv : Is G H v d) : ∀ {fs' : List (Str × V)} {fs : List (Str × D)}, Paired (FldR G H) fs' fs → Paired (FldR G H) (putF f v fs') (putFD f d fs)
  | _, _, .nil => .cons ⟨rfl, hv⟩ .nil
  | (g, x) :: r, (g', y) :: r', .cons h t => by
    obtain ⟨h1, h2⟩ := h
    simp only at h1
    subst h1
    show Paired (FldR G H) (if g = f then (g, v) :: r else (g, x) :: putF f v r) (if g = f then (g, d) :: r' else (g, y) :: putFD f d r')
    by_cases hg : g = f
    · rw [if_pos hg, if_pos hg]; exact .cons ⟨rfl, hv⟩ t
    · rw [if_neg hg, if_neg hg]; exact .cons ⟨rfl, h2⟩ (fld_put hv t)
theorem fld_look {G : Gm} {H : Hp} {f : Str} {d : D} : ∀ {fs' : List (Str × V)} {fs : List (Str × D)}, Paired (FldR G H) fs' fs → fs.lookup f = some d → ∃ v, fs'.lookup f = some v ∧ Is G H v d
  | _, _, .nil, h => by cases h
  | (g, x) :: r, (g', y) :: r', .cons h t, hl => by
    obtain ⟨h1, h2⟩ := h
    simp only at h1
    subst h1
    rw [List.lookup_cons] at hl ⊢
    cases hb : f == g with
    | true => rw [hb] at hl; cases hl; exact ⟨x, rfl, h2⟩
    | false => rw [hb] at hl; exact fld_look t hl
theorem fld_none {G : Gm} {H : Hp} {f : Str} : ∀ {fs' : List (Str × V)} {fs : List (Str × D)}, Paired (FldR G H) fs' fs → fs.lookup f = none → fs'.lookup f = none
  | _, _, .nil, _ => rfl
  | (g, x) :: r, (g', y) :: r', .cons h t, hl => by
    obtain ⟨h1, h2⟩ := h
    simp only at h1
    subst h1
    rw [List.lookup_cons] at hl ⊢
    cases hb : f == g with
    | true => rw [hb] at hl; cases hl
    | false => rw [hb] at hl; exact fld_none t hl
theorem fld_len {G : Gm} {H : Hp} : ∀ {fs' : List (Str × V)} {fs : List (Str × D)}, Paired (FldR G H) fs' fs → fs'.length = fs.length
  | _, _, .nil => rfl
  | _, _, .cons _ t => congrArg (· + 1) (fld_len t)
theorem fld_mono {G : Gm} {H H' : Hp} (e : Ex H H') {fs' : List (Str × V)} {fs : List (Str × D)} (p : Paired (FldR G H) fs' fs) : Paired (FldR G H') fs' fs := paired_imp (fun _ _ h => ⟨h.1, h.2.mono e⟩) p
section
variable {c : Cd} {N : List Str} {sc : Scope} {k j : Nat} {Γ : Gx} {M : Mem} {P : D → Mem → Prop} {T : Bool → Mem → Prop} {nx_ : Gx → Mem → Prop} {rt_ : D → Mem → Prop} {bk_ ct_ : Gx → Mem → Prop} {e a b : Expr} {es : List Expr} {pos apos cpos p : Pos} {y : D} {φ : Phi} {B : Addr} {nm f : Str}
theorem e_fldB (S : ClsB c.m B nm) (nr : NoAttr c.m.K B f) (o : c.Ok N sc k) (hb : attributeBase e f c.X.env (eval e c.X.env) = eval e c.X.env) (h : Ee c Γ M e fun d M1 => ∃ x dx fs dv, d = .own x ∧ (x, Cell.ins B dx fs) ∈ M1 ∧ fs.lookup f = some dv ∧ P dv M1) : Ee c Γ M (.Attribute e f pos) P :=
  e_of (pe_fld pe_sem hb) fun σ H H1 Q tr sl q => h σ H H1 _ tr sl fun d M1 v H' H2 p1 tr1 e1 i1 => by
    obtain ⟨x, dx, fs, dv, rfl, hm, hl, p1⟩ := p1
    obtain ⟨fs', h1, h2, h3⟩ := tr1.ok.cells _ _ hm
    obtain ⟨w, hw, iw⟩ := fld_look h3 hl
    exact ⟨x, B, dx, fs', w, i1, h1, by rw [o.K]; exact S.cls, by rw [o.K]; exact nr, hw, q dv M1 _ H' H2 p1 tr1 e1 iw⟩
theorem s_fldB (S : ClsB c.m B nm) (nr : NoAttr c.m.K B f) (o : c.Ok N sc k) {pos' : Pos} (hs : swapsWith b (some (.Attribute e f pos')) pos.line c.X.env = pure false)
    (h : Ee c Γ M b fun d M1 => Ee c Γ M1 e fun u M2 => ∃ i x dx fs, u = .own x ∧ M2[i]? = some (x, .ins B dx fs) ∧ fs.length < 100 ∧ nx_ Γ (M2.set i (x, .ins B dx (putFD f d fs)))) :
    Es c Γ M (.Assign [.Attribute e f pos'] b pos) ⟨nx_, rt_, bk_, ct_⟩ :=
  s_of (ps_fld pe_sem pe_sem hs) fun σ H H1 E tr sl r => h σ H H1 _ tr sl fun d M1 v H' H2 p1 tr1 e1 i1 => by
    refine p1 σ H' H2 _ tr1 (sl.mono e1) fun u M2 w H3 H4 p3 tr3 e3 i3 => ?_
    obtain ⟨i, x, dx, fs, rfl, hi, hn, p3⟩ := p3
    have i1 := i1.mono e3
    obtain ⟨fs', h1, h2, h3⟩ := tr3.ok.cells _ _ (List.mem_of_getElem? hi)
    refine ⟨x, B, dx, fs', i3, h1, by rw [o.K]; exact S.cls, by rw [o.K]; exact nr, by rw [fld_len h3]; omega, ?_⟩
    have hne : dx ≠ x := fun z => by rw [z, h1] at h2; cases h2
    have t4 := tr3.ok.put (i := i) (c' := .ins B dx (putFD f d fs)) (H2 := upd H4 x (.ins B dx (putF f v fs'))) hi rfl (fun b o hb hq => by
      rw [upd_ne (by simp [fp1] at hb; exact hb.1)]; exact hq) ⟨putF f v fs', upd_same, by rw [upd_ne hne]; exact h2, fld_put i1 h3⟩
    exact r.nx _ _ _ _ _ p3 (tr3.trans t4) ((e1.trans e3).trans t4.ex) ((sl.mono (e1.trans e3)).mono t4.ex)
theorem Ok.madeB {G : Gm} {H H1 : Hp} {M : Mem} {x dx : Addr} (k : CR.Ok G H H1 M) (hx : H1 x = none) (hd : H1 dx = none) (hne : dx ≠ x) : Tr G ⟨H, H1, M⟩ H (upd (upd H1 dx (.own x)) x (.ins B dx [])) ((x, .ins B dx []) :: M) := by
  have kp : ∀ b u, H1 b = some u → upd (upd H1 dx (.own x)) x (.ins B dx []) b = some u := fun b u h => by rw [upd_ne (ne_of_none h hx), upd_ne (ne_of_none h hd)]; exact h
  have ef : fp ((x, Cell.ins B dx []) :: M) = x :: dx :: fp M := by unfold fp; rw [List.flatMap_cons]; rfl
  refine ⟨⟨fun b u h => kp b u (k.ex b u h), fun a d h => ?_, ?_, fun b hb => ?_⟩, Evl.Ex.refl H, fun b u h _ => kp b u h, fun b h hm => rfl, fun b h => ?_⟩
  · rcases List.mem_cons.mp h with e | h
    · cases e
      exact ⟨[], upd_same, by rw [upd_ne hne, upd_same], .nil⟩
    · exact (k.cells a d h).mono (Evl.Ex.refl H) fun b _ u hu => kp b u hu
  · rw [ef]
    exact List.nodup_cons.mpr ⟨fun z => by
      rcases List.mem_cons.mp z with e | z
      · exact hne e.symm
      · exact k.fresh hx z, List.nodup_cons.mpr ⟨k.fresh hd, k.nd⟩⟩
  · rw [ef] at hb
    rcases List.mem_cons.mp hb with e | hb
    · subst e; exact k.freshH hx
    · rcases List.mem_cons.mp hb with e | hb
      · subst e; exact k.freshH hd
      · exact k.out b hb
  · rw [ef] at h
    rcases List.mem_cons.mp h with e | h
    · subst e; exact .inr hx
    · rcases List.mem_cons.mp h with e | h
      · subst e; exact .inr hd
      · exact .inl h
theorem e_mkB (F : MkB c.m B j φ) (S : ClsB c.m B nm) (o : c.Ok N sc k) (hj : j + 1 ≤ k) (hg : sc.names.lookup nm = some .globalImplicit) (hdb : (nm == ("__debug__" : Str)) = false)
    (he : starEach (e :: es) c.X.env = (false, eval e c.X.env) :: starEach es c.X.env) (hpl : (backTo pos (starEach es c.X.env)).any (·.1) = false)
    (h : Ea c Γ M (e :: es) fun ds M1 => ∀ x dx, φ (.own x :: ds) ((x, .ins B dx []) :: M1) (fun d M2 => d = dN ∧ P (.own x) M2) NoR) : Ee c Γ M (.Call (.Name nm p) (e :: es) [] pos) P := by
  obtain ⟨f, Mk, fd, ps, F, hb⟩ := F.ex
  have F' : FnOk c.X.prog c.X.w c.X.K c.X.mg c.X.base (L2.CX c.X.prog c.X.w) j f fd ps (spOf c.G φ) := by rw [o.prog, o.ew, o.K, o.mg, o.base]; exact F
  refine e_of (pe_make (dvs := []) (E := E0) (by rw [o.K]; exact Mk) F' (o.room.mono hj) (gl_of o hg) (by rw [o.mg]; exact S.g) (by rw [o.K]; exact hb) .nil passL pa_sem hdb he hpl) fun σ H H1 Q tr sl q => h σ H H1 _ tr sl fun ds M1 vs H' H2 p1 tr1 e1 i1 => ?_
  intro x dx hx hd hne
  have t2 := tr1.ok.madeB (B := B) hx hd hne
  refine ⟨H', _, .own x :: ds, _, NoR, t2.ok, by rw [List.append_nil]; exact ⟨rfl, i1⟩, p1 x dx, fun d M' v H3 H4 p3 t3 i3 => ?_, fun _ _ _ _ _ _ _ z => z.elim⟩
  obtain ⟨rfl, p3⟩ := p3
  exact ⟨i3.non, q _ _ _ _ _ p3 ((tr1.trans t2).trans t3) (e1.trans t3.ex) rfl⟩
theorem e_metB {m : Str} {pl : Sem Bool} (F : MtB c.m B j m φ) (S : ClsB c.m B nm) (o : c.Ok N sc k) (hj : j ≤ k)
    (he : starEach (e :: es) c.X.env = (false, eval e c.X.env) :: starEach es c.X.env) (hpl : (backTo pos (starEach es c.X.env)).any (·.1) = false)
    (ht : eval (.Call (.Attribute a m apos) (e :: es) [] pos) c.X.env = (do
      let ov ← eval a c.X.env
      standAt apos.atName
      let (f, first) ← holding [ov] (getMethod ov m pl)
      callWith pos f first (backTo pos (starEach (e :: es) c.X.env)) (backToKw pos (keywordEach [] c.X.env))))
    (h : Ee c Γ M a fun d M1 => ∃ x dx fs, d = .own x ∧ (x, Cell.ins B dx fs) ∈ M1 ∧ fs.lookup m = none ∧ Ea c Γ M1 (e :: es) fun ds M2 => φ (.own x :: ds) M2 P NoR) : Ee c Γ M (.Call (.Attribute a m apos) (e :: es) [] pos) P := by
  obtain ⟨g, hm, fd, ps, F, hB⟩ := F.ex
  have F' : FnOk c.X.prog c.X.w c.X.K c.X.mg c.X.base (L2.CX c.X.prog c.X.w) j g fd ps (spOf c.G φ) := by rw [o.prog, o.ew, o.K, o.mg, o.base]; exact F
  refine e_of (pe_meth (dvs := []) (E := E0) (pl := pl) pe_sem (by rw [o.K]; exact S.cls) (by rw [o.K]; exact hm) F' (o.room.mono hj) (by rw [o.K]; exact hB) .nil passL pa_sem he hpl ht) fun σ H H1 Q tr sl q => h σ H H1 _ tr sl fun d M1 v H' H2 p1 tr1 e1 i1 => ?_
  obtain ⟨x, dx, fs, rfl, hmem, hl, p1⟩ := p1
  obtain ⟨fs', h1, h2, h3⟩ := tr1.ok.cells _ _ hmem
  refine ⟨x, dx, fs', i1, h1, fld_none h3 hl, ?_⟩
  refine p1 σ H' H2 _ tr1 (sl.mono e1) fun ds M2 vs H3 H4 p3 tr3 e3 i3 => ?_
  exact ⟨H3, M2, .own x :: ds, P, NoR, tr3.ok, by rw [List.append_nil]; exact ⟨i1.mono e3, i3⟩, p3, fun d M' v H5 H6 p5 t5 i5 => q d M' v H5 H6 p5 (tr3.trans t5) ((e1.trans e3).trans t5.ex) i5, fun _ _ _ _ _ _ _ z => z.elim⟩
theorem e_metB0 {m : Str} {pl : Sem Bool} (F : MtB c.m B j m φ) (S : ClsB c.m B nm) (o : c.Ok N sc k) (hj : j ≤ k)
    (ht : eval (.Call (.Attribute a m apos) [] [] pos) c.X.env = (do
      let ov ← eval a c.X.env
      standAt apos.atName
      let (f, first) ← holding [ov] (getMethod ov m pl)
      callWith pos f first (backTo pos (starEach [] c.X.env)) (backToKw pos (keywordEach [] c.X.env))))
    (h : Ee c Γ M a fun d M1 => ∃ x dx fs, d = .own x ∧ (x, Cell.ins B dx fs) ∈ M1 ∧ fs.lookup m = none ∧ φ [.own x] M1 P NoR) : Ee c Γ M (.Call (.Attribute a m apos) [] [] pos) P := by
  obtain ⟨g, hm, fd, ps, F, hB⟩ := F.ex
  have F' : FnOk c.X.prog c.X.w c.X.K c.X.mg c.X.base (L2.CX c.X.prog c.X.w) j g fd ps (spOf c.G φ) := by rw [o.prog, o.ew, o.K, o.mg, o.base]; exact F
  refine e_of (pe_meth0 (dvs := []) (E := E0) (pl := pl) pe_sem (by rw [o.K]; exact S.cls) (by rw [o.K]; exact hm) F' (o.room.mono hj) (by rw [o.K]; exact hB) .nil passL ht) fun σ H H1 Q tr sl q => h σ H H1 _ tr sl fun d M1 v H' H2 p1 tr1 e1 i1 => ?_
  obtain ⟨x, dx, fs, rfl, hmem, hl, p1⟩ := p1
  obtain ⟨fs', h1, h2, h3⟩ := tr1.ok.cells _ _ hmem
  refine ⟨x, dx, fs', i1, h1, fld_none h3 hl, ?_⟩
  exact ⟨H', M1, [.own x], P, NoR, tr1.ok, ⟨i1, trivial⟩, p1, fun d M' v H5 H6 p5 t5 i5 => q d M' v H5 H6 p5 (tr1.trans t5) (e1.trans t5.ex) i5, fun _ _ _ _ _ _ _ z => z.elim⟩
theorem e_prB (F : PrB c.m B j f φ) (S : ClsB c.m B nm) (o : c.Ok N sc k) (hj : j + 1 ≤ k) (hb : attributeBase e f c.X.env (eval e c.X.env) = eval e c.X.env) (h : Ee c Γ M e fun d M1 => ∃ x dx fs, d = .own x ∧ (x, Cell.ins B dx fs) ∈ M1 ∧ φ [d] M1 P NoR) : Ee c Γ M (.Attribute e f pos) P := by
  obtain ⟨pp, g, hp, fd, ps, F, hB⟩ := F.ex
  have F' : FnOk c.X.prog c.X.w c.X.K c.X.mg c.X.base (L2.CX c.X.prog c.X.w) j g fd ps (spOf c.G φ) := by rw [o.prog, o.ew, o.K, o.mg, o.base]; exact F
  refine e_of (pe_prop (dvs := []) (E := E0) pe_sem (by rw [o.K]; exact S.cls) (by rw [o.K]; exact hp) F' (o.room.mono hj) (by rw [o.K]; exact hB) .nil (fun pins σ H s e s' I h => by
    obtain ⟨_, _, _, _, _, _, _, _, _, _, _, _, z⟩ := h
    exact z.elim) hb) fun σ H H1 Q tr sl q => h σ H H1 _ tr sl fun d M1 v H' H2 p1 tr1 e1 i1 => ?_
  obtain ⟨x, dx, fs, rfl, hmem, p1⟩ := p1
  obtain ⟨fs', h1, h2, h3⟩ := tr1.ok.cells _ _ hmem
  exact ⟨x, dx, _, i1, h1, H', M1, [.own x], P, NoR, tr1.ok, ⟨rfl, trivial⟩, p1, fun d M' v H3 H4 p3 t3 i3 => q d M' v H3 H4 p3 (tr1.trans t3) (e1.trans t3.ex) i3, fun _ _ _ _ _ _ _ z => z.elim⟩
theorem c_lenB {x dx : Addr} {fs : List (Str × D)} (F : SpB c.m B j "__len__" φ) (o : c.Ok N sc k) (hj : j + 1 ≤ k) (hmem : (x, Cell.ins B dx fs) ∈ M) (h : φ [.own x] M (fun d M' => ∃ n : Nat, d = dI n ∧ n < 100000 ∧ P d M') NoR) : OL c (rLen c) [.own x] M P := fun H H1 vs Q tr iv q => by
  obtain ⟨f, hs, hf, fd, ps, F, hB⟩ := F.ex
  have F' : FnOk c.X.prog c.X.w c.X.K c.X.mg c.X.base (L2.CX c.X.prog c.X.w) j f fd ps (spOf c.G φ) := by rw [o.prog, o.ew, o.K, o.mg, o.base]; exact F
  obtain ⟨v, rfl, i1⟩ := is1 iv
  have ev : v = .ref x := i1
  subst ev
  obtain ⟨fs', h1, h2, h3⟩ := tr.ok.cells _ _ hmem
  refine .inr fun pins s σ us I rs => ?_
  obtain ⟨u, rfl, ru⟩ := rs.one
  cases (show u = Value.ref x from ru)
  obtain ⟨mA, J, _⟩ := ins_get I.hok h1
  obtain ⟨od, J, _⟩ := J.look
  obtain ⟨m, hF⟩ := I.fr
  refine PySem.W.len_K hF I.ok.mod.kin J (by rw [o.K]; exact hs) (by rw [o.K]; exact hf) (wpAny_mono (run_in (E := E0) F' (o.room.mono hj).in1 I.env0.in1 (by rw [o.K]; exact hB) noPassE I (vs := [V.ref x]) (.cons rfl .nil)
    (Q := fun z H' => ∃ n : Nat, z = .int n ∧ n < 100000 ∧ Q z H') ⟨H, M, [.own x], _, NoR, tr.ok, ⟨rfl, trivial⟩, h, fun d M' v H3 H4 p3 t3 i3 => ?_, fun _ _ _ _ _ _ _ z => z.elim⟩) (fun w s' z => ?_) fun _ _ x => x)
  · obtain ⟨n, rfl, hn, p3⟩ := p3
    exact ⟨n, i3.int, hn, q _ M' _ H3 H4 p3 (tr.trans t3) t3.ex i3⟩
  · obtain ⟨z', H', I', rz, n, rfl, hn, qz⟩ := z
    obtain ⟨t, e⟩ := (show ∃ t, w = Value.int n t from rz)
    cases e
    exact ⟨⟨by omega, by omega⟩, .int n, H', I'.tok _, ⟨_, rfl⟩, qz⟩
end
end

section
open PySem PySem.Spec PyProof.Rows L2
open Evl (Ex)
theorem rg_natB (n : Nat) : rgI 0 n = (List.range n).map fun i : Nat => (i : Int) := by
  unfold rgI
  rw [show ((n : Int) - 0).toNat = n by omega]
  exact List.map_congr_left fun i _ => by simp
section
variable {c : Cd} {N : List Str} {sc : Scope} {k : Nat} {Γ : Gx} {M : Mem} {P : D → Mem → Prop} {a : Expr} {pos : Pos}
theorem e_tupRg1 {p1 p2 p3 : Pos} (ok : c.Ok N sc k) (hm : c.m.mg "tuple" = none) (hm2 : c.m.mg "range" = none) (hg : sc.names.lookup ("tuple" : Str) = some .globalImplicit) (hg2 : sc.names.lookup ("range" : Str) = some .globalImplicit)
    (na : starEach [a] c.X.env = (false, eval a c.X.env) :: starEach [] c.X.env) (nb : starEach [.Call (.Name "range" p2) [a] [] p3] c.X.env = (false, eval (.Call (.Name "range" p2) [a] [] p3) c.X.env) :: starEach [] c.X.env)
    (h : Ee c Γ M a fun d M1 => ∃ n : Int, d = dI n ∧ (-100000 ≤ n ∧ n ≤ 100000) ∧ P (dT ((rgI 0 n).map .int)) M1) : Ee c Γ M (.Call (.Name "tuple" p1) [.Call (.Name "range" p2) [a] [] p3] [] pos) P :=
  e_of (pe_tupRg ok.calm (gl_of ok hg) (by rw [ok.mg]; exact hm) (prg_1 (gl_of ok hg2) (by rw [ok.mg]; exact hm2) pe_sem na) nb) fun σ H H1 Q tr sl q => h σ H H1 _ tr sl fun d M1 v H' H2 p1 t1 e1 i1 => by
    obtain ⟨n, rfl, hn, p⟩ := p1
    refine ⟨n, i1.int, ⟨by omega, by omega, by omega, by omega, by omega⟩, fun l hl => ?_⟩
    have t2 := t1.ok.new (o := .tup (rgV 0 n)) hl
    exact q _ _ _ _ _ p (t1.trans t2) (e1.trans t2.ex) (Dq.tup (SqT.of upd_same) (by rw [rgV_eq]; exact dpa_ints))
end
end

section
open PySem PySem.Spec PyProof.Rows L2
open Evl (Ex)
structure BnD where
  x : Addr
  dx : Addr
  r : Addr
  s : Addr
  u : Addr
abbrev bnF (b : BnD) (gd : PyData) : List (Str × D) := [("given", .p gd), ("rows", .own b.r), ("steps_done", .own b.s), ("undone", .own b.u)]
def bnRows (n : Nat) (steps : List (List Int)) : List (List Nat) := (List.range (steps.length + 1)).map fun i => doneIt (steps.take i) (List.range n)
abbrev ntD (q : List Nat) : PyData := .tuple (q.map natI)
theorem bnRows_len {n : Nat} {steps : List (List Int)} : (bnRows n steps).length = steps.length + 1 := by simp [bnRows]
theorem bnRows_last {n : Nat} {steps : List (List Int)} : ((bnRows n steps).map ntD)[steps.length]? = some (ntD (doneIt steps (List.range n))) := by
  unfold bnRows
  rw [List.map_map, List.getElem?_map, List.getElem?_range (Nat.lt_succ_self _)]
  show some (ntD (doneIt (steps.take steps.length) (List.range n))) = _
  rw [List.take_length]
theorem bnRows_snoc {n : Nat} {steps : List (List Int)} {st : List Int} : bnRows n (steps ++ [st]) = bnRows n steps ++ [rdIt st (doneIt steps (List.range n))] := by
  unfold bnRows
  rw [List.length_append, List.length_singleton, List.range_succ, List.map_append]
  congr 1
  · refine List.map_congr_left fun i hi => ?_
    have hi := List.mem_range.mp hi
    rw [List.take_append_of_le_length (by omega)]
  · show [doneIt ((steps ++ [st]).take (steps.length + 1)) (List.range n)] = _
    rw [List.take_of_length_le (by simp)]
    show [(steps ++ [st]).foldl (fun it s => rdIt s it) (List.range n)] = _
    rw [List.foldl_append]; rfl
abbrev bnM (B : Addr) (b : BnD) (gd : PyData) (n : Nat) (steps und : List (List Int)) : Mem :=
  [(b.x, Cell.ins B b.dx (bnF b gd)), (b.r, Cell.lst ((bnRows n steps).map ntD)), (b.s, Cell.lst (steps.map sD)), (b.u, Cell.lst (und.map sD))]
structure BnC (m : Md) (B : Addr) : Prop where
  S : ClsB m B "Bench"
  g : NoAttr m.K B "given"
  r : NoAttr m.K B "rows"
  s : NoAttr m.K B "steps_done"
  u : NoAttr m.K B "undone"
structure BnOk (n : Nat) (steps und : List (List Int)) : Prop where
  st : ∀ s ∈ steps, StepOk s
  un : ∀ s ∈ und, StepOk s
  n : n ≤ 100
  few : steps.length ≤ 100
  fewU : und.length ≤ 100
theorem BnOk.ords {n : Nat} {steps und : List (List Int)} (h : BnOk n steps und) : ∀ s ∈ steps, OrdOk s := fun s hs => ⟨(h.st s hs).1, (h.st s hs).2.2⟩
theorem range_getDb {α : Type} (l : List α) (d : α) : (List.range l.length).map (fun q => l.getD q d) = l := by
  apply List.ext_getElem
  · simp
  · intro i h1 h2
    rw [List.getElem_map, List.getElem_range, getD_at h2]
theorem done_pick {α : Type} (ss : List (List Int)) (xs : List α) (d : α) : (doneIt ss (List.range xs.length)).map (fun i => xs.getD i d) = doneIt ss xs := by
  rw [← doneIt_map, range_getDb]
def phTxtNow (B : Addr) : Phi := fun ds M P _ => ∃ (b : BnD) (gd : PyData) (n : Nat) (steps und : List (List Int)) (M0 : Mem), ds = [.own b.x] ∧ M = bnM B b gd n steps und ++ M0 ∧ BnOk n steps und ∧ TxtK M (.p gd) P (fun _ xs => doneIt steps xs) ∧ ∀ xs, TxtD M (.p gd) xs → xs.length = n
theorem ok_textNow {m : Md} {f B : Addr} {fd : FuncData} {k : Nat} (F : Fun m.K "text_now" "text_now" S_text_now f fd) (C : BnC m B) (F2 : Fd m CX0 k "like" phLike) :
    FnOk m.P m.w m.K m.mg m.base CX0 (k + 1) f fd A_text_now (spOf m.G (phTxtNow B)) := by
  refine fn_ok F sc_text_now (fun ds M P R h => by obtain ⟨b, gd, n, steps, und, M0, rfl, _⟩ := h; rfl) (fun c ds M P R hc o hl h => ?_)
  subst hc
  obtain ⟨b, gd, n, steps, und, M0, rfl, rfl, hb, ht, hlen⟩ := h
  obtain ⟨xs, hd, hxl, hfin⟩ := txt_of (c := c) (natf_done hb.ords) ht
  have hn := hlen xs hd
  show Eb c [some (.own b.x), none] _ _ _
  refine sq_ret ?_
  refine b_cons' (by rfl) ?_
  repeat walk_at "x"
  refine e_fldB C.S C.g o rfl ?_
  repeat walk_at "x"
  refine ⟨b.x, b.dx, bnF b gd, .p gd, rfl, .head _, rfl, ?_⟩
  repeat walk_at "x"
  refine e_lcM [("number", 1)] o rfl (fun _ => rfl) ?_
  refine i_tup o ?_
  repeat walk_at "x"
  refine e_fldB C.S C.r o rfl ?_
  repeat walk_at "x"
  refine ⟨b.x, b.dx, bnF b gd, .own b.r, rfl, .head _, rfl, ?_⟩
  repeat walk_at "x"
  refine ox_lst (.own (.tail _ (.head _))) bnRows_last (.inr (by rw [List.length_map, bnRows_len]; omega)) ?_
  refine ⟨_, rfl, ?_⟩
  rw [List.length_map]
  have hdl : (doneIt steps (List.range n)).length = n := by rw [doneIt_len hb.ords, List.length_range]
  have hmem : ∀ i ∈ doneIt steps (List.range n), i < n := fun i hi => List.mem_range.mp (doneIt_mem hi)
  refine ⟨fun j => xs.getD ((doneIt steps (List.range n)).getD j 0) .none, by have := hb.n; omega, fun _ _ => trivial, fun j acc a hj X1 o1 => ?_, fun a => ?_⟩
  · have hmj := hmem _ (List.getElem_mem hj)
    dsimp only
    rw [getD_map hj, getD_at hj]
    generalize (doneIt steps (List.range n))[j] = i at hmj
    unfold natI
    repeat walk_at "x"
    intro X2 o2
    repeat walk_at "x"
    refine e_fldB (c := c.blk X2) C.S C.g o2 rfl ?_
    repeat walk_at "x"
    refine ⟨b.x, b.dx, bnF b gd, .p gd, rfl, .tail _ (.head _), rfl, ?_⟩
    repeat walk_at "x"
    refine ox_tx hd.cons (j := i) (y := xs.getD i .none) (by rw [getD_at (by omega)]; exact List.getElem?_eq_getElem (by omega)) ?_
    exact ⟨rfl, rfl⟩
  · have he : (List.range (doneIt steps (List.range n)).length).map (fun j => xs.getD ((doneIt steps (List.range n)).getD j 0) .none) = doneIt steps xs := by
      rw [range_map_get (xs := doneIt steps (List.range n)) (f := fun i => xs.getD i .none) fun i hi => by rw [getD_at hi], ← hn, done_pick]
    rw [he]
    repeat walk_at "x"
    exact hfin a _ _ (.refl _)
end

section
open PySem PySem.Spec PyProof.Rows L2
open Evl (Ex)
def phBnLeft (B : Addr) : Phi := fun ds M P _ => ∃ (b : BnD) (gd : PyData) (n : Nat) (steps und : List (List Int)) (M0 : Mem), ds = [.own b.x] ∧ M = bnM B b gd n steps und ++ M0 ∧ P (.p (ntD (doneIt steps (List.range n)))) M
theorem ok_bnLeft {m : Md} {f B : Addr} {fd : FuncData} {k : Nat} (F : Fun m.K "left" "Bench.left" S_Bench_left f fd) (C : BnC m B) :
    FnOk m.P m.w m.K m.mg m.base CX0 (k + 1) f fd A_Bench_left (spOf m.G (phBnLeft B)) := by
  refine fn_ok F sc_Bench_left (fun ds M P R h => by obtain ⟨b, gd, n, steps, und, M0, rfl, _⟩ := h; rfl) (fun c ds M P R hc o hl h => ?_)
  subst hc
  obtain ⟨b, gd, n, steps, und, M0, rfl, rfl, p⟩ := h
  show Eb c [some (.own b.x)] _ _ _
  refine b_cons' (by rfl) ?_
  repeat walk_at "x"
  refine e_fldB C.S C.r o rfl ?_
  repeat walk_at "x"
  refine ⟨b.x, b.dx, bnF b gd, .own b.r, rfl, .head _, rfl, ?_⟩
  repeat walk_at "x"
  refine ox_lst (.own (.tail _ (.head _))) bnRows_last (.inr (by rw [List.length_map, bnRows_len]; omega)) ?_
  exact p
def phBnGo (B : Addr) : Phi := fun ds M P _ => ∃ (b : BnD) (gd : PyData) (n : Nat) (steps und : List (List Int)) (M0 : Mem) (st : List Int), ds = [.own b.x, .p (sD st)] ∧ M = bnM B b gd n steps und ++ M0 ∧ BnOk n steps und ∧ StepOk st ∧ P dN (bnM B b gd n (steps ++ [st]) und ++ M0)
theorem ok_bnGo {m : Md} {f B : Addr} {fd : FuncData} {k : Nat} (F : Fun m.K "go" "Bench.go" S_Bench_go f fd) (C : BnC m B) (F1 : Fd m CX0 k "read_items" phRdI) (m1 : m.mg "tuple" = none) :
    FnOk m.P m.w m.K m.mg m.base CX0 (k + 1) f fd A_Bench_go (spOf m.G (phBnGo B)) := by
  refine fn_ok F sc_Bench_go (fun ds M P R h => by obtain ⟨b, gd, n, steps, und, M0, st, rfl, _⟩ := h; rfl) (fun c ds M P R hc o hl h => ?_)
  subst hc
  obtain ⟨b, gd, n, steps, und, M0, st, rfl, rfl, hb, hst, p⟩ := h
  have hdl : (doneIt steps (List.range n)).length = n := by rw [doneIt_len hb.ords, List.length_range]
  have hn := hb.n
  have hf := hb.few
  show Eb c [some (.own b.x), some (.p (sD st))] _ _ _
  refine b_cons' (by rfl) ?_
  repeat walk_at "x"
  refine e_fldB C.S C.r o rfl ?_
  repeat walk_at "x"
  refine ⟨b.x, b.dx, bnF b gd, .own b.r, rfl, .head _, rfl, ?_⟩
  repeat walk_at "x"
  refine ⟨b.r, _, rfl, .tail _ (.head _), ?_⟩
  repeat walk_at "x"
  refine e_fldB C.S C.r o rfl ?_
  repeat walk_at "x"
  refine ⟨b.x, b.dx, bnF b gd, .own b.r, rfl, .head _, rfl, ?_⟩
  repeat walk_at "x"
  refine ox_lst (.own (.tail _ (.head _))) bnRows_last (.inr (by rw [List.length_map, bnRows_len]; omega)) ?_
  repeat walk_at "x"
  refine ⟨st, _, _, rfl, ⟨hst.1, hst.2.2⟩, by have := hst.2.1; omega, .inr rfl, by rw [List.length_map]; omega, fun a => ?_⟩
  have hrm : rdIt st ((doneIt steps (List.range n)).map natI) = (rdIt st (doneIt steps (List.range n))).map natI := (rdIt_map natI st (doneIt steps (List.range n)))
  rw [hrm]
  repeat walk_at "x"
  refine c_tuple (.inl (.own (.head _))) ?_
  refine ⟨2, _, _, rfl, rfl, by rw [List.length_map, bnRows_len]; omega, ?_⟩
  rw [show (bnRows n steps).map ntD ++ [PyData.tuple ((rdIt st (doneIt steps (List.range n))).map natI)] = (bnRows n (steps ++ [st])).map ntD by rw [bnRows_snoc, List.map_append]; rfl]
  refine sq_conv (M2 := (b.x, Cell.ins B b.dx (bnF b gd)) :: (b.r, Cell.lst ((bnRows n (steps ++ [st])).map ntD)) :: (b.s, Cell.lst (steps.map sD)) :: (b.u, Cell.lst (und.map sD)) :: M0) Conv.drop ?_
  repeat walk_at "x"
  refine e_fldB C.S C.s o rfl ?_
  repeat walk_at "x"
  refine ⟨b.x, b.dx, bnF b gd, .own b.s, rfl, .head _, rfl, ?_⟩
  repeat walk_at "x"
  refine ⟨b.s, _, rfl, .tail _ (.tail _ (.head _)), ?_⟩
  repeat walk_at "x"
  refine ⟨2, _, _, rfl, rfl, by rw [List.length_map]; omega, ?_⟩
  rw [show steps.map sD ++ [sD st] = (steps ++ [st]).map sD by rw [List.map_append]; rfl]
  repeat walk_at "x"
  exact p
end

section
open PySem PySem.Spec PyProof.Rows L2
open Evl (Ex)
theorem signs_app (a b : Str) : signsS (a ++ b) = signsS a ++ signsS b := by unfold signsS; rw [str_app, List.map_append]
theorem signs_join : ∀ {zs : List Str}, (∀ z ∈ zs, ∃ ch, z = ⟨#[ch]⟩) → signsS (Str.join "" zs) = zs
  | [], _ => rfl
  | [z], h => by
    obtain ⟨ch, rfl⟩ := h z (by simp)
    rfl
  | z :: y :: r, h => by
    have ih := signs_join (zs := y :: r) fun x hx => h x (List.mem_cons_of_mem _ hx)
    obtain ⟨ch, rfl⟩ := h z (by simp)
    show signsS ((⟨#[ch]⟩ : Str) ++ "" ++ Str.join "" (y :: r)) = _
    rw [signs_app, signs_app, ih]; rfl
theorem signs_one {s z : Str} (h : z ∈ signsS s) : ∃ ch, z = ⟨#[ch]⟩ := by
  unfold signsS at h
  obtain ⟨ch, _, rfl⟩ := List.mem_map.mp h
  exact ⟨ch, rfl⟩
theorem map_inj {α β : Type} {f : α → β} (hf : ∀ x y, f x = f y → x = y) : ∀ {a b : List α}, a.map f = b.map f → a = b
  | [], [], _ => rfl
  | [], _ :: _, h => by cases h
  | _ :: _, [], h => by cases h
  | x :: a, y :: b, h => by
    rw [List.map_cons, List.map_cons] at h
    injection h with h1 h2
    rw [hf _ _ h1, map_inj hf h2]
theorem signs_inj : ∀ {s t : Str}, signsS s = signsS t → s = t
  | ⟨⟨a⟩⟩, ⟨⟨b⟩⟩, h => by
    have h : a.map (fun ch => (⟨#[ch]⟩ : Str)) = b.map fun ch => (⟨#[ch]⟩ : Str) := h
    have : a = b := map_inj (fun x y e => by injection e with e; injection e with e; injection e) h
    rw [this]
theorem join_signs (s : Str) : Str.join "" (signsS s) = s := signs_inj (signs_join fun z hz => signs_one hz)
theorem signs_sum (s : Str) : ((signsS s).map (·.length)).sum ≤ s.length := by
  have h1 := sum_le (xs := signsS s) (n := 1) fun x hx => by
    obtain ⟨ch, rfl⟩ := signs_one hx
    exact Nat.le_refl 1
  rw [signs_len] at h1; omega
def Kept (M : Mem) (t : D) (xs : List PyData) (gd : PyData) : Prop := (∃ s : Str, t = dS s ∧ s.length ≤ 100 ∧ xs = (signsS s).map .str ∧ gd = .str s) ∨ (t = dT xs ∧ gd = .tuple xs) ∨ (Rdd M t (.list xs) ∧ gd = .list xs)
theorem Kept.txt {M M' : Mem} {t : D} {xs : List PyData} {gd : PyData} (h : Kept M t xs gd) : TxtD M' (.p gd) xs := by
  rcases h with ⟨s, rfl, hl, rfl, rfl⟩ | ⟨rfl, rfl⟩ | ⟨h, rfl⟩
  · exact .inl ⟨s, rfl, by omega, rfl⟩
  · exact .inr (.inl rfl)
  · exact .inr (.inr (.p _))
def phBnI (B : Addr) : Phi := fun ds M P _ => ∃ (x dx : Addr) (t : D) (xs : List PyData) (gd : PyData) (M0 : Mem), ds = [.own x, t] ∧ M = (x, Cell.ins B dx []) :: M0 ∧ Kept M0 t xs gd ∧ xs.length ≤ 100 ∧ ∀ r s u, P dN (bnM B ⟨x, dx, r, s, u⟩ gd xs.length [] [] ++ M0)
theorem rdd_cons {M : Mem} {x : D} {y : PyData} {c : Addr × Cell} (h : Rdd M x y) : Rdd (c :: M) x y := by
  cases h with
  | p => exact .p _
  | scp => exact .scp _
  | own h => exact .own (List.mem_cons_of_mem _ h)
theorem Kept.cons {M : Mem} {c : Addr × Cell} {t : D} {xs : List PyData} {gd : PyData} (h : Kept M t xs gd) : Kept (c :: M) t xs gd := by
  rcases h with h | h | ⟨h, e⟩
  · exact .inl h
  · exact .inr (.inl h)
  · exact .inr (.inr ⟨rdd_cons h, e⟩)
theorem Kept.d {M : Mem} {t : D} {xs : List PyData} {gd : PyData} (h : Kept M t xs gd) : TxtD M t xs := by
  rcases h with ⟨s, rfl, hl, rfl, rfl⟩ | ⟨rfl, rfl⟩ | ⟨h, rfl⟩
  · exact .inl ⟨s, rfl, by omega, rfl⟩
  · exact .inr (.inl rfl)
  · exact .inr (.inr h)
theorem ok_bnInit {m : Md} {f B : Addr} {fd : FuncData} {k : Nat} (F : Fun m.K "__init__" "Bench.__init__" S_Bench___init__ f fd) (C : BnC m B) (F1 : Fd m CX0 k "like" phLike) (m1 : m.mg "tuple" = none) (m2 : m.mg "list" = none) (m3 : m.mg "range" = none) (m4 : m.mg "len" = none) :
    FnOk m.P m.w m.K m.mg m.base CX0 (k + 1) f fd A_Bench___init__ (spOf m.G (phBnI B)) := by
  refine fn_ok F sc_Bench___init__ (fun ds M P R h => by obtain ⟨x, dx, t, xs, gd, M0, rfl, _⟩ := h; rfl) (fun c ds M P R hc o hl h => ?_)
  subst hc
  obtain ⟨x, dx, t, xs, gd, M0, rfl, rfl, ht, hn, p⟩ := h
  show Eb c [some (.own x), some t] _ _ _
  refine sq_ret ?_
  refine b_cons' (by rfl) ?_
  refine s_fldB C.S C.g o rfl ?_
  refine Ep.imp (P := fun d M1 => d = .p gd ∧ M1 = (x, Cell.ins B dx []) :: M0) ?_ (fun d M1 h => ?_)
  · rcases ht.cons (c := (x, Cell.ins B dx [])) with ⟨s, rfl, hl2, rfl, rfl⟩ | ⟨rfl, rfl⟩ | ⟨h, rfl⟩
    · refine e_conv ?_
      repeat walk_at "x"
      refine c_listS (by omega) fun a => ?_
      repeat walk_at "x"
      refine ⟨_, _, rfl, .inl ⟨s, signsS s, rfl, .own (.head _), ?_, ?_⟩⟩
      · have := signs_sum s; omega
      · rw [join_signs]
        exact ⟨_, Conv.drop, rfl, rfl⟩
    · refine e_conv ?_
      repeat walk_at "x"
      refine c_list (.inr rfl) fun a => ?_
      repeat walk_at "x"
      refine ⟨_, _, rfl, .inr (.inl ⟨xs, xs, rfl, .own (.head _), ?_⟩)⟩
      exact ⟨_, Conv.drop, rfl, rfl⟩
    · refine e_frz ?_
      repeat walk_at "x"
      refine c_list (.inl h) fun a => ?_
      repeat walk_at "x"
      refine ⟨_, _, rfl, .inr (.inr ⟨xs, rdd_cons h, ?_⟩)⟩
      exact ⟨a, xs, 0, rfl, rfl, rfl, rfl⟩
  obtain ⟨rfl, rfl⟩ := h
  repeat walk_at "x"
  refine ⟨0, x, dx, [], rfl, rfl, Nat.le_of_ble_eq_true rfl, ?_⟩
  repeat walk_at "x"
  refine s_fldB C.S C.r o rfl ?_
  refine e_lstO ?_
  walk_at "x"
  refine e_tupRg1 o (by assumption) (by assumption) rfl rfl rfl rfl ?_
  repeat walk_at "x"
  refine c_lenTx ht.cons.d ?_
  refine ⟨_, rfl, ⟨by omega, by omega⟩, ?_⟩
  repeat walk_at "x"
  intro r
  repeat walk_at "x"
  refine ⟨1, x, dx, _, rfl, rfl, Nat.le_of_ble_eq_true rfl, ?_⟩
  repeat walk_at "x"
  refine s_fldB C.S C.s o rfl ?_
  refine e_lstO ?_
  repeat walk_at "x"
  intro s
  repeat walk_at "x"
  refine ⟨2, x, dx, _, rfl, rfl, Nat.le_of_ble_eq_true rfl, ?_⟩
  repeat walk_at "x"
  refine s_fldB C.S C.u o rfl ?_
  refine e_lstO ?_
  repeat walk_at "x"
  intro u
  repeat walk_at "x"
  refine ⟨3, x, dx, _, rfl, rfl, Nat.le_of_ble_eq_true rfl, ?_⟩
  repeat walk_at "x"
  refine ⟨_, ?_, p r s u⟩
  rw [rg_natB, List.map_map]
  have hp : ∀ (p1 p2 p3 p4 : Addr × Cell), (p1 :: p2 :: p3 :: p4 :: M0).Perm (p4 :: p3 :: p2 :: p1 :: M0) := fun p1 p2 p3 p4 => by
    have := (List.reverse_perm [p1, p2, p3, p4]).symm.append_right M0
    exact this
  exact Conv.perm (hp _ _ _ _)
end

section
open PySem PySem.Spec PyProof.Rows L2
open Evl (Ex)
def phBnRead (B : Addr) : Phi := fun ds M P _ => ∃ (b : BnD) (gd : PyData) (n : Nat) (steps und : List (List Int)) (M0 : Mem) (st : List Int) (xs : List PyData), ds = [.own b.x, .p (sD st)] ∧ M = bnM B b gd n steps und ++ M0 ∧ BnOk n (steps ++ [st]) und ∧ (∀ M', TxtD M' (.p gd) xs) ∧ xs.length = n ∧
  ∀ u, TxtK (bnM B ⟨b.x, b.dx, b.r, b.s, u⟩ gd n (steps ++ [st]) [] ++ M0) (.p gd) P (fun _ xs => doneIt (steps ++ [st]) xs)
theorem txtd_one {M : Mem} {gd : PyData} {xs ys : List PyData} (h : TxtD M (.p gd) xs) (h2 : TxtD M (.p gd) ys) : ys = xs := by
  rcases h with ⟨s, hs, hl, rfl⟩ | h | h <;> rcases h2 with ⟨s', hs', hl', rfl⟩ | h2 | h2
  · rw [hs] at hs'; cases hs'; rfl
  · rw [hs] at h2; cases h2
  · rw [hs] at h2; cases h2
  · rw [h] at hs'; cases hs'
  · rw [h] at h2; cases h2; rfl
  · rw [h] at h2; cases h2
  · rw [hs'] at h; cases h
  · rw [h2] at h; cases h
  · cases h; cases h2; rfl
theorem BnOk.done {n : Nat} {steps und : List (List Int)} (h : BnOk n steps und) : BnOk n steps [] := ⟨h.st, by simp, h.n, h.few, by simp⟩
theorem ok_bnRead {m : Md} {f B : Addr} {fd : FuncData} {k : Nat} (F : Fun m.K "read" "Bench.read" S_Bench_read f fd) (C : BnC m B) (F1 : Fd m CX0 k "is_step" phIsStep) (F2 : MtB m B k "go" (phBnGo B)) (F3 : Fd m CX0 k "text_now" (phTxtNow B)) :
    FnOk m.P m.w m.K m.mg m.base CX0 (k + 1) f fd A_Bench_read (spOf m.G (phBnRead B)) := by
  refine fn_ok F sc_Bench_read (fun ds M P R h => by obtain ⟨b, gd, n, steps, und, M0, st, xs, rfl, _⟩ := h; rfl) (fun c ds M P R hc o hl h => ?_)
  subst hc
  obtain ⟨b, gd, n, steps, und, M0, st, xs, rfl, rfl, hb, hxs, hxl, p⟩ := h
  have hst : StepOk st := hb.st st (by simp)
  have hb0 : BnOk n steps und := ⟨fun s hs => hb.st s (by simp [hs]), hb.un, hb.n, by have := hb.few; rw [List.length_append] at this; omega, hb.fewU⟩
  show Eb c [some (.own b.x), some (.p (sD st))] _ _ _
  refine b_cons' (by rfl) ?_
  repeat walk_at "x"
  refine ⟨sD st, rfl, ?_⟩
  rw [isStepD_ok hst]
  repeat walk_at "x"
  refine e_metB F2 C.S o (Nat.le_refl _) rfl rfl rfl ?_
  repeat walk_at "x"
  refine ⟨b.x, b.dx, bnF b gd, rfl, .head _, rfl, ?_⟩
  repeat walk_at "x"
  refine ⟨b, gd, n, steps, und, M0, st, rfl, rfl, hb0, hst, ?_⟩
  repeat walk_at "x"
  refine s_fldB C.S C.u o rfl ?_
  refine e_lstO ?_
  repeat walk_at "x"
  intro u
  repeat walk_at "x"
  refine ⟨1, b.x, b.dx, _, rfl, rfl, Nat.le_of_ble_eq_true rfl, ?_⟩
  refine sq_conv (M2 := bnM B ⟨b.x, b.dx, b.r, b.s, u⟩ gd n (steps ++ [st]) [] ++ M0) ?_ ?_
  · refine Conv.trans (M' := (u, Cell.lst []) :: (b.x, Cell.ins B b.dx (bnF ⟨b.x, b.dx, b.r, b.s, u⟩ gd)) :: (b.r, Cell.lst ((bnRows n (steps ++ [st])).map ntD)) :: (b.s, Cell.lst ((steps ++ [st]).map sD)) :: M0) (Conv.sub (.cons_cons _ (.cons_cons _ (.cons_cons _ (.cons_cons _ (.cons _ (.refl _))))))) (Conv.perm ?_)
    have hp : ∀ (p1 p2 p3 p4 : Addr × Cell), (p1 :: p2 :: p3 :: p4 :: M0).Perm (p2 :: p3 :: p4 :: p1 :: M0) := fun p1 p2 p3 p4 => by
      have : [p1, p2, p3, p4].Perm [p2, p3, p4, p1] := List.perm_middle (a := p1) (l₁ := [p2, p3, p4]) (l₂ := []) |>.symm
      exact this.append_right M0
    exact hp _ _ _ _
  repeat walk_at "x"
  exact ⟨⟨b.x, b.dx, b.r, b.s, u⟩, gd, n, steps ++ [st], [], M0, rfl, rfl, hb.done, p u, fun ys hy => by rw [txtd_one (hxs _) hy, hxl]⟩
end

section
open PySem PySem.Spec PyProof.Rows L2
open Evl (Ex)
def GdOk (gd : PyData) (xs : List PyData) : Prop := (∃ s : Str, gd = .str s ∧ s.length ≤ 100 ∧ xs = (signsS s).map .str) ∨ gd = .tuple xs ∨ gd = .list xs
theorem GdOk.txt {M : Mem} {gd : PyData} {xs : List PyData} (h : GdOk gd xs) : TxtD M (.p gd) xs := by
  rcases h with ⟨s, rfl, hl, rfl⟩ | rfl | rfl
  · exact .inl ⟨s, rfl, by omega, rfl⟩
  · exact .inr (.inl rfl)
  · exact .inr (.inr (.p _))
def txR (ss : List (List Int)) : PyData → PyData
  | .str s => .str (Str.join "" (doneIt ss (signsS s)))
  | .tuple xs => .tuple (doneIt ss xs)
  | .list xs => .list (doneIt ss xs)
  | d => d
theorem txK_of {M : Mem} {gd : PyData} {xs : List PyData} {P : D → Mem → Prop} {ss : List (List Int)} (h : GdOk gd xs) (hl : xs.length ≤ 100) (p : ∀ d E, Rdd (E ++ M) d (txR ss gd) → P d (E ++ M)) : TxtK M (.p gd) P (fun _ xs => doneIt ss xs) := by
  rcases h with ⟨s, rfl, hl2, rfl⟩ | rfl | rfl
  · exact .inl ⟨s, rfl, by omega, p _ [] (.p _)⟩
  · exact .inr (.inl ⟨xs, rfl, by omega, p _ [] (.p _)⟩)
  · exact .inr (.inr ⟨xs, .p _, by omega, fun a => p _ [(a, _)] (.own (.head _))⟩)
end

section
open PySem PySem.Spec PyProof.Rows L2
open Evl (Ex)
section
variable {m : Md} {B : Addr} {j k : Nat} {x : Str} {φ : Phi}
theorem MkB.mono (F : MkB m B j φ) (h : j ≤ k) : MkB m B k φ := by
  obtain ⟨f, h1, h2⟩ := F.ex
  exact ⟨f, h1, h2.mono h⟩
theorem PrB.mono (F : PrB m B j x φ) (h : j ≤ k) : PrB m B k x φ := by
  obtain ⟨p, f, h1, h2⟩ := F.ex
  exact ⟨p, f, h1, h2.mono h⟩
theorem MtB.mono (F : MtB m B j x φ) (h : j ≤ k) : MtB m B k x φ := by
  obtain ⟨f, h1, h2⟩ := F.ex
  exact ⟨f, h1, h2.mono h⟩
theorem SpB.mono (F : SpB m B j x φ) (h : j ≤ k) : SpB m B k x φ := by
  obtain ⟨f, h1, h2, h3⟩ := F.ex
  exact ⟨f, h1, h2, h3.mono h⟩
end
theorem es_impB {c : Cd} {Γ : Gx} {M : Mem} {st : Stmt} {n1 n2 : Gx → Mem → Prop} {rt_ : D → Mem → Prop} {bk_ ct_ : Gx → Mem → Prop} (h : Es c Γ M st ⟨n1, rt_, bk_, ct_⟩) (i : ∀ Γ' M', n1 Γ' M' → n2 Γ' M') : Es c Γ M st ⟨n2, rt_, bk_, ct_⟩ :=
  fun σ H H1 E tr sl r => h σ H H1 E tr sl ⟨fun Γ' M' σ' H' H2 p => r.nx Γ' M' σ' H' H2 (i Γ' M' p), r.rt, r.bk, r.ct⟩
theorem ea_conv {c : Cd} {Γ : Gx} {M M2 : Mem} {es : List Expr} {A : List D → Mem → Prop} (v : Conv c.G M M2) (h : Ea c Γ M2 es A) : Ea c Γ M es A := fun σ H H1 Q tr sl q => h σ H H1 Q (v.tr tr) sl q
theorem rdd_of {M M' : Mem} {d : D} {e : PyData} (hs : ∀ p ∈ M, p ∈ M') (h : Rdd M d e) : Rdd M' d e := by
  cases h with
  | p => exact .p _
  | scp => exact .scp _
  | own h => exact .own (hs _ h)
section
variable {G : Gm} {x y q1 q2 q3 q4 l u : Addr × Cell} {R : Mem}
theorem cv_in : Conv G (x :: q1 :: q2 :: q3 :: q4 :: R) (q1 :: q2 :: q3 :: q4 :: x :: R) := Conv.perm (List.perm_middle (a := x) (l₁ := [q1, q2, q3, q4]) (l₂ := R)).symm
theorem cv_un : Conv G (x :: q1 :: q2 :: q3 :: q4 :: l :: u :: R) (q1 :: q2 :: q3 :: q4 :: l :: x :: R) := cv_in.trans ((Conv.perm (((List.Perm.swap l x (u :: R)).cons q4 |>.cons q3 |>.cons q2 |>.cons q1))).trans (Conv.sub (.cons_cons _ (.cons_cons _ (.cons_cons _ (.cons_cons _ (.cons_cons _ (.cons_cons _ (.cons _ (.refl _))))))))))
theorem cv_lg : Conv G (x :: q1 :: q2 :: q3 :: q4 :: l :: u :: R) (q1 :: q2 :: q3 :: q4 :: x :: u :: R) := cv_in.trans (Conv.sub (.cons_cons _ (.cons_cons _ (.cons_cons _ (.cons_cons _ (.cons_cons _ (.cons _ (.refl _))))))))
theorem cv_two : Conv G (y :: x :: q1 :: q2 :: q3 :: q4 :: l :: u :: R) (q1 :: q2 :: q3 :: q4 :: x :: y :: R) := by
  refine Conv.trans (M' := y :: q1 :: q2 :: q3 :: q4 :: x :: u :: R) ?_ cv_un
  refine Conv.trans (M' := y :: q1 :: q2 :: q3 :: q4 :: x :: l :: u :: R) (Conv.perm ((List.perm_middle (a := x) (l₁ := [q1, q2, q3, q4]) (l₂ := l :: u :: R)).symm.cons y)) (Conv.sub (.cons_cons _ (.cons_cons _ (.cons_cons _ (.cons_cons _ (.cons_cons _ (.cons_cons _ (.cons _ (.refl _)))))))))
theorem cv_two0 : Conv G (y :: x :: q1 :: q2 :: q3 :: q4 :: R) (q1 :: q2 :: q3 :: q4 :: x :: y :: R) := by
  refine Conv.trans (M' := y :: q1 :: q2 :: q3 :: q4 :: x :: R) (Conv.perm ((List.perm_middle (a := x) (l₁ := [q1, q2, q3, q4]) (l₂ := R)).symm.cons y)) ?_
  exact cv_in.trans (Conv.perm ((List.Perm.swap x y R).cons q4 |>.cons q3 |>.cons q2 |>.cons q1))
theorem sl_fin {b a5 a6 a7 : Addr × Cell} {E E2 : Mem} : (q1 :: q2 :: q3 :: q4 :: l :: u :: R).Sublist (a7 :: (E2 ++ (a6 :: a5 :: (q1 :: q2 :: q3 :: q4 :: (E ++ (b :: l :: u :: R)))))) :=
  .cons _ ((List.Sublist.cons _ (.cons _ (.cons_cons _ (.cons_cons _ (.cons_cons _ (.cons_cons _ ((List.Sublist.cons _ (.refl _)).trans (List.sublist_append_right E _)))))))).trans (List.sublist_append_right E2 _))
theorem cv_mid {E : Mem} : Conv G (E ++ (q1 :: q2 :: q3 :: q4 :: R)) (q1 :: q2 :: q3 :: q4 :: (E ++ R)) := Conv.perm (by
  have h : (E ++ ([q1, q2, q3, q4] ++ R)).Perm ([q1, q2, q3, q4] ++ (E ++ R)) := by
    rw [← List.append_assoc, ← List.append_assoc]
    exact List.perm_append_comm.append_right R
  exact h)
end
theorem strOk_signs {s : Str} (h : ∀ z ∈ signsS s, PyData.strOk z = true) : PyData.strOk s = true := by
  unfold PyData.strOk
  rw [← Array.all_toList, List.all_eq_true]
  intro ch hc
  have := h ⟨#[ch]⟩ (by unfold signsS; exact List.mem_map_of_mem hc)
  simpa [PyData.strOk] using this
theorem strOk_join {zs : List Str} (h : ∀ z ∈ zs, (∃ ch, z = ⟨#[ch]⟩) ∧ PyData.strOk z = true) : PyData.strOk (Str.join "" zs) = true := strOk_signs fun z hz => by
  rw [signs_join fun z hz => (h z hz).1] at hz
  exact (h z hz).2
theorem dep0 {xs : List PyData} (h : ∀ x ∈ xs, ∃ z, x = .str z) : PyData.depthAll xs = 0 := by
  induction xs with
  | nil => rfl
  | cons x xs ih =>
    obtain ⟨z, rfl⟩ := h x (by simp)
    rw [PyData.depthAll, ih fun y hy => h y (List.mem_cons_of_mem _ hy)]; rfl
def SgOk (xs : List PyData) : Prop := ∀ x ∈ xs, ∃ z, x = .str z ∧ PyData.strOk z = true
theorem txR_ok {gd : PyData} {xs : List PyData} {ss : List (List Int)} (h : GdOk gd xs) (hx : SgOk xs) (hl : xs.length ≤ 100) (hs : ∀ s ∈ ss, OrdOk s) : smB (txR ss gd) = true ∧ (txR ss gd).depth ≤ 1 := by
  have key : ∀ {ys : List PyData}, ys = doneIt ss xs → (Nat.ble ys.length 5000 && smAll ys) = true ∧ PyData.depthAll ys = 0 := by
    intro ys e
    subst e
    have hm : ∀ x ∈ doneIt ss xs, ∃ z, x = .str z ∧ PyData.strOk z = true := fun x h => hx x (doneIt_mem h)
    refine ⟨?_, dep0 fun x h => (hm x h).imp fun _ h => h.1⟩
    rw [Bool.and_eq_true]
    refine ⟨Nat.ble_eq_true_of_le (by rw [doneIt_len hs]; omega), smAll_of fun x h => ?_⟩
    obtain ⟨z, rfl, hz⟩ := hm x h
    exact hz
  rcases h with ⟨s, rfl, hl2, rfl⟩ | rfl | rfl
  · refine ⟨?_, Nat.zero_le _⟩
    show PyData.strOk (Str.join "" (doneIt ss (signsS s))) = true
    refine strOk_join fun z hz => ⟨signs_one (doneIt_mem hz), ?_⟩
    obtain ⟨z', h1, h2⟩ := hx (.str z) (List.mem_map_of_mem (doneIt_mem hz))
    cases h1; exact h2
  · exact ⟨by rw [txR, smB]; exact (key rfl).1, by rw [txR, PyData.depth, (key rfl).2]; exact Nat.le_refl _⟩
  · exact ⟨by rw [txR, smB]; exact (key rfl).1, by rw [txR, PyData.depth, (key rfl).2]; exact Nat.le_refl _⟩
structure LgOk (ss uu : List (List Int)) (i : Nat) : Prop where
  s : ∀ s ∈ ss, StepOk s
  u : ∀ s ∈ uu, StepOk s
  few : ss.length + uu.length ≤ i
theorem LgOk.bn {n i : Nat} {ss uu : List (List Int)} (h : LgOk ss uu i) (hn : n ≤ 100) (hi : i ≤ 100) : BnOk n ss uu := ⟨h.s, h.u, hn, by have := h.few; omega, by have := h.few; omega⟩
theorem LgOk.ords {ss uu : List (List Int)} {i : Nat} (h : LgOk ss uu i) : ∀ s ∈ ss, OrdOk s ∧ s.length ≤ 100 := fun s hs => ⟨⟨(h.s s hs).1, (h.s s hs).2.2⟩, by have := (h.s s hs).2.1; omega⟩
theorem lg_dat {ss : List (List Int)} (h : ∀ s ∈ ss, StepOk s) (hl : ss.length ≤ 100) : smB (.list (ss.map sD)) = true ∧ (PyData.list (ss.map sD)).depth ≤ 2 := by
  refine ⟨?_, (lC sC).dep ss⟩
  rw [smB, Bool.and_eq_true]
  refine ⟨Nat.ble_eq_true_of_le (by rw [List.length_map]; omega), smAll_of fun x hx => ?_⟩
  obtain ⟨s, hs, rfl⟩ := List.mem_map.mp hx
  exact (sm_ints s (by have := (h s hs).2.1; omega)).2
theorem nt_dat {ns : List Nat} (h : ns.length ≤ 100) : smB (ntD ns) = true ∧ (ntD ns).depth ≤ 1 := by
  have e : ns.map natI = (ns.map fun n : Nat => (n : Int)).map PyData.int := by rw [List.map_map]; rfl
  show smB (.tuple (ns.map natI)) = true ∧ (PyData.tuple (ns.map natI)).depth ≤ 1
  rw [e]
  exact ⟨(sm_ints _ (by rw [List.length_map]; omega)).2, (dep_ints _).2⟩
end

section
open PySem PySem.Spec PyProof.Rows L2
open Evl (Ex)
def dftC : Addr × Cell := (0, .lst [])
theorem fp_nd {M : Mem} : (fp M).Nodup ↔ (∀ p ∈ M, (fp1 p).Nodup) ∧ M.Pairwise fun p q => ∀ x ∈ fp1 p, ∀ y ∈ fp1 q, x ≠ y := by
  unfold fp List.Nodup
  exact List.pairwise_flatMap
theorem cv_pick {G : Gm} {M : Mem} (σ : List Nat) (k : Nat) (h : (decide σ.Nodup && σ.all fun i => decide (i < k)) = true) (hk : k ≤ M.length) : Conv G M (σ.map (fun i => M.getD i dftC) ++ M.drop k) := by
  rw [Bool.and_eq_true, decide_eq_true_eq, List.all_eq_true] at h
  obtain ⟨hn, hl⟩ := h
  have hl : ∀ i ∈ σ, i < k := fun i hi => of_decide_eq_true (hl i hi)
  have hin : ∀ p ∈ σ.map (fun i => M.getD i dftC) ++ M.drop k, p ∈ M := fun p hp => by
    rcases List.mem_append.mp hp with hp | hp
    · obtain ⟨i, hi, rfl⟩ := List.mem_map.mp hp
      have hlt : i < M.length := Nat.lt_of_lt_of_le (hl i hi) hk
      show M.getD i dftC ∈ M
      rw [List.getD_eq_getElem?_getD, List.getElem?_eq_getElem hlt]
      exact List.getElem_mem hlt
    · exact List.mem_of_mem_drop hp
  intro H H1 ok
  refine ⟨⟨ok.ex, fun a c hc => ok.cells a c (hin _ hc), ?_, fun b hb => ?_⟩, fun b hb => ?_⟩
  · obtain ⟨n1, n2⟩ := fp_nd.mp ok.nd
    have hpw := List.pairwise_iff_getElem.mp n2
    have key : ∀ i j (hi : i < M.length) (hj : j < M.length), i ≠ j → ∀ x ∈ fp1 M[i], ∀ y ∈ fp1 M[j], x ≠ y := fun i j hi hj hne x hx y hy => by
      rcases Nat.lt_or_gt_of_ne hne with h | h
      · exact hpw i j hi hj h x hx y hy
      · exact (hpw j i hj hi h y hy x hx).symm
    have hg : ∀ i, i < k → ∃ hi : i < M.length, M.getD i dftC = M[i] := fun i hi => by
      have hlt : i < M.length := Nat.lt_of_lt_of_le hi hk
      exact ⟨hlt, by rw [List.getD_eq_getElem?_getD, List.getElem?_eq_getElem hlt]; rfl⟩
    refine fp_nd.mpr ⟨fun p hp => n1 p (hin p hp), List.pairwise_append.mpr ⟨?_, n2.sublist (List.drop_sublist _ _), fun p hp q hq => ?_⟩⟩
    · rw [List.pairwise_map]
      refine hn.imp_of_mem fun {i j} hi hj hne => ?_
      obtain ⟨h1, e1⟩ := hg i (hl i hi)
      obtain ⟨h2, e2⟩ := hg j (hl j hj)
      rw [e1, e2]
      exact key i j h1 h2 hne
    · obtain ⟨i, hi, rfl⟩ := List.mem_map.mp hp
      obtain ⟨h1, e1⟩ := hg i (hl i hi)
      obtain ⟨j, hj, rfl⟩ := List.mem_iff_getElem.mp hq
      rw [List.length_drop] at hj
      show ∀ x ∈ fp1 (M.getD i dftC), ∀ y ∈ fp1 ((M.drop k)[j]), x ≠ y
      rw [e1, List.getElem_drop]
      exact key i (k + j) h1 (by omega) (by have := hl i hi; omega)
  · obtain ⟨p, hp, hb⟩ := mem_fp.mp hb
    exact ok.out b (mem_fp.mpr ⟨p, hin p hp, hb⟩)
  · obtain ⟨p, hp, hb⟩ := mem_fp.mp hb
    exact mem_fp.mpr ⟨p, hin p hp, hb⟩
theorem isAll_getV {G : Gm} {H : Hp} : ∀ {vs : List V} {ds : List D} {i : Nat} {v : V}, IsAll G H vs ds → vs[i]? = some v → ∃ d, ds[i]? = some d ∧ Is G H v d
  | [], [], _, _, _, e => by simp at e
  | v :: _, x :: _, 0, w, h, e => by
    simp at e; subst e
    exact ⟨x, rfl, h.1⟩
  | _ :: _, _ :: _, i + 1, w, h, e => by
    obtain ⟨d, a, b⟩ := isAll_getV h.2 (by simpa using e)
    exact ⟨d, by simpa using a, b⟩
section
variable {c : Cd} {N : List Str} {sc : Scope} {k : Nat} {Γ : Gx} {M : Mem} {P : D → Mem → Prop} {o e : Expr} {es : List Expr} {pos apos cpos : Pos}
theorem oa_lsd {a b : Addr} {xs ys : List D} (hx : (a, Cell.lsd xs) ∈ M) (hy : (b, Cell.lsd ys) ∈ M) (hl : xs.length + ys.length < 100000) (p : ∀ l, P (.own l) ((l, .lsd (xs ++ ys)) :: M)) : O2 c (rAdd c) (.own a) (.own b) M P := fun H H1 v u Q tr iv iu q => by
  obtain ⟨vs, h1, h2⟩ := tr.ok.cells _ _ hx
  obtain ⟨ws, h3, h4⟩ := tr.ok.cells _ _ hy
  refine .inr (.inl ⟨a, b, vs, ws, iv, iu, h1, h3, Evl.sz_of (by rw [h2.len, h4.len]; omega), fun l hl => ?_⟩)
  have t2 := tr.ok.newOwn (o := .lst (vs ++ ws)) (c := .lsd (xs ++ ys)) hl rfl ⟨_, upd_same, h2.append h4⟩
  exact q _ _ _ _ _ (p l) (tr.trans t2) t2.ex rfl
theorem own_tyD {G : Gm} {B : Bs} {H H1 : Hp} {a : Addr} {ds : List D} (t : Tr G B H H1 M) (h : (a, Cell.lsd ds) ∈ M) : tyV G.K "list" (.ref a) H1 := by
  obtain ⟨vs, h1, h2⟩ := t.ok.cells _ _ h
  exact .inl ⟨rfl, vs, SqL.of h1⟩
theorem e_appendD {ok : c.Ok N sc k} (hbase : attributeBase o "append" c.X.env (eval o c.X.env) = eval o c.X.env)
    (hfew : ((backTo cpos (starEach [e] c.X.env)).all (fun x => !x.1) && (backToKw cpos (keywordEach [] c.X.env)).all (fun x => x.1.isSome) && decide (([e] : List Expr).length + ([] : List Keyword).length + (if ([] : List Keyword).isEmpty then 0 else 1) < 30)) = true)
    (hline : (apos.endLine == cpos.line) = true) (hs : starEach [e] c.X.env = (false, eval e c.X.env) :: starEach [] c.X.env) (hp : (backTo cpos (starEach [] c.X.env)).any (·.1) = false)
    (h : Ee c Γ M o fun d M1 => ∃ a ds0, d = .own a ∧ (a, Cell.lsd ds0) ∈ M1 ∧ Ee c Γ M1 e fun y M2 => ∃ (i : Nat) (ds : List D), M2[i]? = some (a, .lsd ds) ∧ ds.length < 100000 ∧ P dN (M2.set i (a, .lsd (ds ++ [y])))) :
    Ee c Γ M (.Call (.Attribute o "append" apos) [e] [] cpos) P :=
  e_of (pe_bm PySem.F.plainAttrs_list PySem.F.slot_list_append PySem.F.type_list_append mt_append pe_sem pa_sem hbase hfew hline hs hp) fun σ H H1 Q tr sl q => h σ H H1 _ tr sl fun d M1 v H' H2 p1 tr1 e1 i1 => by
    obtain ⟨a, ds0, rfl, hm, p1⟩ := p1
    rw [show v = .ref a from i1, show c.X.K = c.G.K from ok.K]
    refine ⟨own_tyD tr1 hm, (a_one hs p1) σ H' H2 _ tr1 (sl.mono e1) fun xs M2 ys H3 H4 p3 t3 e3 i3 => ?_⟩
    obtain ⟨y, rfl, i, ds, hi, hl, pp⟩ := p3
    obtain ⟨w, rfl, iw⟩ := is1 i3
    obtain ⟨ws, h1, h2⟩ := t3.ok.cells _ _ (List.mem_of_getElem? hi)
    have t5 := t3.ok.put (i := i) (c' := .lsd (ds ++ [y])) (H2 := upd H4 a (.lst (ws ++ [w]))) hi rfl (fun b o hb hq => by rw [upd_ne (by simpa [fp1] using hb)]; exact hq) ⟨ws ++ [w], upd_same, h2.append ⟨iw, trivial⟩⟩
    exact ⟨a, ws, w, rfl, rfl, h1, Evl.sz_lt (by rw [h2.len]; exact hl), q _ _ _ _ _ pp (t3.trans t5) ((e1.trans e3).trans t5.ex) Dq.non⟩
theorem i_lsd {tg iter : Expr} {Pi : Nat → (Nat → D) → (Mem → Prop) → Mem → Prop} (o : c.Ok N sc k) (h : Ee c Γ M iter fun d M1 => ∃ a xs, d = .own a ∧ (a, Cell.lsd xs) ∈ M1 ∧ Pi xs.length (fun i => xs.getD i dN) (fun M' => (a, Cell.lsd xs) ∈ M') M1) : Ei c Γ M tg iter Pi :=
  fun σ H H1 R tr sl q => pi_to (pi_list pe_sem) (h σ H H1 _ tr sl fun d M1 v H' H2 p1 tr1 e1 i1 => by
    obtain ⟨a, xs, rfl, hm, p⟩ := p1
    rw [show v = .ref a from i1, show c.X.K = c.G.K from o.K]
    obtain ⟨vs, h1, h2⟩ := tr1.ok.cells _ _ hm
    refine ⟨a, rfl, ⟨vs, SqL.of h1⟩, q _ _ _ M1 _ H' H2 p tr1 e1 fun i H'' Hq M' t ex kp => ?_⟩
    obtain ⟨ws, g1, g2⟩ := t.ok.cells _ _ kp
    have hq' := SqL.of (K := c.G.K) g1
    have hl := g2.len
    refine ⟨fun hi => ⟨ws, hq', by omega⟩, fun hi => ?_⟩
    obtain ⟨x, hx, ix⟩ := IsAll.get g2 (i := i) (d := xs.getD i dN) (by rw [List.getD_eq_getElem?_getD, List.getElem?_eq_getElem hi]; rfl)
    refine ⟨⟨ws, x, hq', hx⟩, fun y Hp' hy => ?_⟩
    obtain ⟨rfl, hy⟩ := hy
    have := hy ws hq'
    rw [hx] at this
    cases this
    exact ⟨H'', t, Evl.Ex.refl _, ix⟩)
end
theorem strOk_app {a b : Str} (ha : PyData.strOk a = true) (hb : PyData.strOk b = true) : PyData.strOk (a ++ b) = true := by
  unfold PyData.strOk at *
  rw [← Array.all_toList, List.all_eq_true] at *
  intro ch hc
  have e : (a ++ b).cps.toList = a.cps.toList ++ b.cps.toList := str_app a b
  rw [e] at hc
  rcases List.mem_append.mp hc with h | h
  · exact ha ch h
  · exact hb ch h
theorem strOk_joinS {s : Str} (hs : PyData.strOk s = true) : ∀ {ws : List Str}, (∀ w ∈ ws, PyData.strOk w = true) → PyData.strOk (Str.join s ws) = true
  | [], _ => by
    show PyData.strOk ("" : Str) = true
    decide +kernel
  | [w], h => h w (by simp)
  | w :: v :: r, h => by
    show PyData.strOk (w ++ s ++ Str.join s (v :: r)) = true
    exact strOk_app (strOk_app (h w (by simp)) hs) (strOk_joinS hs fun x hx => h x (List.mem_cons_of_mem _ hx))
end

section
open PySem PySem.Spec PyProof.Rows L2
open Evl (Ex)
theorem so1 {s : List Int} (h : StepOk s) : StepsOk [s] := ⟨by show 1 ≤ 3; decide, fun t ht => by rw [List.mem_singleton.mp ht]; exact h⟩
theorem so2 {s t : List Int} (h : StepOk s) (h' : StepOk t) : StepsOk [s, t] := ⟨by show 2 ≤ 3; decide, fun u hu => by
  simp only [List.mem_cons, List.not_mem_nil, or_false] at hu
  rcases hu with rfl | rfl
  · exact h
  · exact h'⟩
theorem so0 : StepsOk [] := ⟨by show 0 ≤ 3; decide, fun t ht => by cases ht⟩
theorem st_2m : StepOk [2, -1] := by decide +kernel
theorem st_m : StepOk [-1] := by decide +kernel
theorem st_12 : StepOk [1, 2] := by decide +kernel
theorem st_21 : StepOk [2, 1] := by decide +kernel
theorem st_1 : StepOk [1] := by decide +kernel
theorem y_done1 : Str.join "" (doneIt [[2, -1]] (signsS "abcdefg")) = "bdfgeca" := by decide +kernel
theorem y_back1 : Str.join "" (backIt [[2, -1]] (signsS "bdfgeca")) = "abcdefg" := by decide +kernel
theorem y_plc1 : plcS [[2, -1]] 7 0 = 6 := by decide +kernel
theorem y_whc1 : whcS [[2, -1]] 7 0 = 1 := by decide +kernel
theorem y_done2 : doneIt [[2, -1], [-1]] ([1, 2, 3] : List Int) = [1, 3, 2] := by decide +kernel
theorem y_plc2 : plcS [[2, -1], [-1]] TOP (TOP - 1) = TOP / 2 := by decide +kernel
theorem y_whc2 : whcS [[2, -1], [-1]] TOP (TOP / 2) = TOP - 1 := by decide +kernel
abbrev seen3 : List Row := [(7, 0, 6), (7, 1, 0), (7, 2, 5)]
theorem seen3_ok : ∀ r ∈ seen3, RowOk r := fun r h => by
  simp only [List.mem_cons, List.not_mem_nil, or_false] at h
  rcases h with rfl | rfl | rfl <;> exact ⟨by decide, by decide, by decide⟩
theorem y_ords : ordsN [[1, 2], [1, 2]] = [[1, 2, 3, 4], [1, 4, 3, 2], [1, 4, 3, 2], [1, 2, 3, 4]] := by decide +kernel
theorem y_ordAt : orderN [[1, 2], [1, 2]] (5 % wideOf [[1, 2], [1, 2]]) = [1, 4, 3, 2] := by decide +kernel
theorem y_rdBy : Str.join "" (rdIt [1, 4, 3, 2] (signsS "abcde")) = "aedcb" := by decide +kernel
theorem y_done3 : Str.join "" (doneIt [[1, 2], [1, 2]] (signsS "abcdef")) = "aedcbf" := by decide +kernel
theorem y_fit : fitL seen3 1 = [[[2, -1]]] := by
  rw [fitL_due _ (by decide), show (dueL 1).filter (fitP seen3) = [[[2, -1]]] by decide +kernel]
  exact sortR_short (by decide)
theorem y_steady : ((ordsN [[1, 2], [1, 2]]).all fun s => decide (s = (ordsN [[1, 2], [1, 2]]).getD 0 [])) = false := by decide +kernel
theorem y_agr1 : agrD [[1, 2]] [] = .tuple [natI 3, natI 1, .tuple [], .tuple [natI 0, natI 1, natI 2]] := by
  unfold agrD
  rw [show startN [[1, 2]] [] = 3 by decide +kernel, show perN [[1, 2]] [] = 1 by decide +kernel, show remN [[1, 2]] [] = [] by decide +kernel, show earlyN [[1, 2]] [] = [0, 1, 2] by decide +kernel]
  rfl
theorem y_agr2 : agrD [[-1], [1, 2]] [[1, 2], [-1]] = .tuple [natI 2, natI 2, .tuple [natI 0], .tuple [natI 0, natI 1]] := by
  unfold agrD
  rw [show startN [[-1], [1, 2]] [[1, 2], [-1]] = 2 by decide +kernel, show perN [[-1], [1, 2]] [[1, 2], [-1]] = 2 by decide +kernel, show remN [[-1], [1, 2]] [[1, 2], [-1]] = [0] by decide +kernel, show earlyN [[-1], [1, 2]] [[1, 2], [-1]] = [0, 1] by decide +kernel]
  rfl
theorem y_part1 : LPart [[1, 2]] [] 3 1 := ⟨by decide +kernel, by decide +kernel, by decide, by decide +kernel, by decide +kernel⟩
theorem y_part2 : LPart [[1, 2]] [[2, 1]] 2 0 := ⟨by decide +kernel, by decide +kernel, by decide, by decide +kernel, by decide +kernel⟩
theorem map_injN {a b : List Nat} (h : a.map (fun m : Nat => (m : Int)) = b.map fun m : Nat => (m : Int)) : a = b := map_inj (fun x y e => by have : (x : Int) = (y : Int) := e; omega) h
theorem still_val {ss : List (List Int)} {n : Nat} {L : List Nat} (hs : StepsOk ss) (ha : isAll ss = false) (he : stillN ss n = L) (hp : L.Pairwise (· ≤ ·)) {ms : List Nat} (h : StillT ss n ms) : ms = L := by
  obtain ⟨ms', e, h'⟩ := still_told hs ha (n := n) (out := L.map fun m : Nat => (m : Int)) (by rw [he]) (by
    rw [List.pairwise_map]
    exact hp.imp fun h => by omega)
  have e2 := map_injN e
  subst e2
  exact sorted_ext h.inc h'.inc fun m => (h.mem m).trans (h'.mem m).symm
theorem a_12 : isAll [[1, 2]] = false := by decide +kernel
theorem a_m : isAll [[-1]] = false := by decide +kernel
theorem y_still1 {ms : List Nat} (h : StillT [[1, 2]] TOP ms) : ms = [0, TOP - 1] := still_val (so1 st_12) a_12 (by decide +kernel) (by decide) h
theorem y_still2 {ms : List Nat} (h : StillT [[1, 2]] (TOP - 1) ms) : ms = [0] := still_val (so1 st_12) a_12 (by decide +kernel) (by decide) h
theorem y_still3 {ms : List Nat} (h : StillT [[-1]] 7 ms) : ms = [3] := still_val (so1 st_m) a_m (by decide +kernel) (by decide) h
theorem y_still4 {ms : List Nat} (h : StillT [[-1]] 8 ms) : ms = [] := still_val (so1 st_m) a_m (by decide +kernel) (by decide) h
theorem round_val {n : Nat} {g : Nat → Nat} {L K : Nat} (h : RoundT n g L) (hK : 0 < K) (h1 : ∀ x, x < n → itr g K x = x) (h2 : ∀ d, d < K → 0 < d → ¬ ∀ x, x < n → itr g d x = x) : L = K := by
  have hd := (h.dvd K).mpr h1
  have hle := Nat.le_of_dvd hK hd
  rcases Nat.lt_or_ge L K with z | z
  · exact absurd ((h.dvd L).mp (Nat.dvd_refl L)) (h2 L z h.pos)
  · omega
abbrev lens8 : List Nat := [0, 1, 2, 3, 4, 5, 8, 52]
abbrev rnds8 : List Nat := [1, 1, 1, 2, 2, 4, 3, 8]
theorem y_rounds : ∀ i, i < 8 → (0 < rnds8.getD i 0) ∧ (∀ x, x < lens8.getD i 0 → itr (nbr [[1, 2]] (lens8.getD i 0)) (rnds8.getD i 0) x = x) ∧ ∀ d, d < rnds8.getD i 0 → 0 < d → ¬ ∀ x, x < lens8.getD i 0 → itr (nbr [[1, 2]] (lens8.getD i 0)) d x = x := by decide +kernel
theorem y_round2 {L : Nat} (h : RoundT 9 (nbr [[-1]] 9) L) : L = 2 := round_val h (by decide) (by decide +kernel) (by decide +kernel)
theorem perm_one {α : Type} {xs : List α} {x : α} (h : xs.Perm [x]) : xs = [x] := List.perm_singleton.mp h
theorem y_fnd1 : fndL [[1, 2], [-1]] 1 = [[[-2, -1]]] := by
  refine perm_one ?_
  have hp : (candL (wideOf [[1, 2], [-1]]) 1).Perm ((rowsN 3 (upTo 2)).map fun s => [s]) := by
    show (if wideOf [[1, 2], [-1]] ≤ 3 then (allS (wideOf [[1, 2], [-1]])).map fun s => [s] else []).Perm _
    rw [show wideOf [[1, 2], [-1]] = 2 by decide, if_pos (by decide)]
    exact (sortS_perm _).map _
  refine (hp.filter _).trans (.of_eq ?_)
  decide +kernel
theorem y_short1 : shortL [[1, 2], [-1]] = [[[-2, -1]]] := by
  rw [shortL_at (i := 1) (by decide) (fun j hj => by obtain rfl : j = 0 := (by omega); decide +kernel) (by rw [y_fnd1]; decide), y_fnd1]
theorem y_short2 : shortL [[-1], [-1]] = [[]] := by
  have e : fndL [[-1], [-1]] 0 = [[]] := by decide +kernel
  rw [shortL_at (i := 0) (by decide) (fun j hj => absurd hj (by omega)) (by rw [e]; decide), e]
theorem y_exch : exIdx [[1, 2], [-1]] = [] := by decide +kernel
theorem y_alike : ordsN [[-1], [-1]] = ordsN [[1]] := by decide +kernel
theorem y_bn1 : Str.join "" (doneIt [[2, 1]] (signsS "abcde")) = "bdace" := by decide +kernel
theorem y_bn2 : Str.join "" (doneIt [[2, 1], [-1]] (signsS "abcde")) = "ecadb" := by decide +kernel
theorem y_bn3 : doneIt [[2, 1], [-1]] (List.range 5) = [4, 2, 0, 3, 1] := by decide +kernel
end

section
open PySem PySem.Spec PyProof.Rows L2
open Evl (Ex)
def phYes : Phi := fun ds M P _ => ds = [] ∧ ∀ M', P (dB true) M'
theorem e30 : (10 : Int) ^ Int.toNat 30 = ((TOP : Nat) : Int) := by decide
theorem etm : ((TOP : Nat) : Int) - 1 = ((TOP - 1 : Nat) : Int) := by decide
theorem eth : ((TOP : Nat) : Int) / 2 = ((TOP / 2 : Nat) : Int) := by decide
theorem top_pred : TOP - 1 < TOP := by decide
theorem top_half : TOP / 2 < TOP := by decide
theorem ok_rows21 {m : Md} {f T I I2 : Addr} {fd : FuncData} {k : Nat} (F : Fun m.K "_law_rows" "_law_rows" S__law_rows f fd) (F1 : Fd m CX0 k "done" phDone) (F2 : Fd m CX0 k "back" phBack) (FA : SpS m k "__add__" (phAdd T)) (hsf : PySem.W.selfFirst m.K m.C = true) (F3 : Fd m CX0 k "place" phPlace) (F4 : Fd m CX0 k "whence" phWhence) (F5 : Fd m (L2.CX m.P m.w) k "fitting" (phFit I I2))
    (FS : MkS m (k - 1) (phInit m.C)) (S : ClsS m) (h1 : 1 ≤ k) :
    FnOk m.P m.w m.K m.mg m.base CX0 (k + 1) f fd A__law_rows (spOf m.G phYes) := by
  refine fn_ok F sc__law_rows (fun ds M P R h => by obtain ⟨rfl, _⟩ := h; rfl) (fun c ds M P R hc o hl h => ?_)
  subst hc
  obtain ⟨rfl, p⟩ := h
  show Eb c [none, none] M _ _
  refine b_cons' (by rfl) ?_
  repeat walk_at "x"
  intro x dx
  refine ⟨x, dx, [[2, -1]], _, rfl, rfl, so1 st_2m, rfl, 0, _, rfl, ?_⟩
  repeat walk_at "x"
  refine ⟨[[2, -1]], _, rfl, so1 st_2m, TxtK.s y_done1 (by decide) ?_⟩
  repeat walk_at "x"
  rw [decide_eq_true rfl]
  repeat walk_at "x"
  refine ⟨[[2, -1]], _, rfl, so1 st_2m, TxtK.s y_back1 (by decide) ?_⟩
  repeat walk_at "x"
  rw [decide_eq_true rfl]
  repeat walk_at "x"
  intro x dx
  refine ⟨x, dx, [[-1]], _, rfl, rfl, so1 st_m, rfl, 0, _, rfl, ?_⟩
  refine oa_scr FA hsf o (Nat.le_refl _) ⟨[[2, -1]], [[-1]], rfl, so1 st_2m, so1 st_m, fun z => absurd z (by decide), fun _ => ?_⟩
  repeat walk_at "x"
  refine ⟨[[2, -1]], 7, 0, rfl, so1 st_2m, by decide, by decide, ?_⟩
  rw [y_plc1]
  repeat walk_at "x"
  rw [decide_eq_true (show ((6 : Nat) : Int) = 6 from rfl)]
  repeat walk_at "x"
  refine ⟨[[2, -1]], 7, 0, rfl, so1 st_2m, by decide, by decide, ?_⟩
  rw [y_whc1]
  repeat walk_at "x"
  rw [decide_eq_true (show ((1 : Nat) : Int) = 1 from rfl)]
  repeat walk_at "x"
  refine e_lst ?_
  repeat walk_at "x"
  refine ⟨[[2, -1], [-1]], _, rfl, so2 st_2m st_m, TxtK.l (xs := ([1, 2, 3] : List Int).map .int) (ys := ([1, 3, 2] : List Int).map .int) (.p _) (by rw [doneIt_map, y_done2]) (by decide) fun b => ?_⟩
  repeat walk_at "x"
  refine e_lst ?_
  repeat walk_at "x"
  refine on_c (lC iC) [1, 3, 2] [1, 3, 2] (.own (.head _)) (.p _) rfl ?_
  rw [decide_eq_true rfl]
  repeat walk_at "x"
  refine o_pow ⟨by decide, by decide, by decide⟩ ?_
  rw [e30]
  repeat walk_at "x"
  refine o_pow ⟨by decide, by decide, by decide⟩ ?_
  rw [e30]
  repeat walk_at "x"
  rw [etm]
  repeat walk_at "x"
  refine ⟨[[2, -1], [-1]], TOP, TOP - 1, rfl, so2 st_2m st_m, Nat.le_refl _, top_pred, ?_⟩
  rw [y_plc2]
  repeat walk_at "x"
  refine o_pow ⟨by decide, by decide, by decide⟩ ?_
  rw [e30]
  repeat walk_at "x"
  refine o_fdiv (cdivw (by decide) (by decide)) ?_
  rw [eth]
  repeat walk_at "x"
  rw [decide_eq_true rfl]
  repeat walk_at "x"
  refine o_pow ⟨by decide, by decide, by decide⟩ ?_
  rw [e30]
  repeat walk_at "x"
  refine o_pow ⟨by decide, by decide, by decide⟩ ?_
  rw [e30]
  repeat walk_at "x"
  refine o_fdiv (cdivw (by decide) (by decide)) ?_
  rw [eth]
  repeat walk_at "x"
  refine ⟨[[2, -1], [-1]], TOP, TOP / 2, rfl, so2 st_2m st_m, Nat.le_refl _, top_half, ?_⟩
  rw [y_whc2]
  repeat walk_at "x"
  refine o_pow ⟨by decide, by decide, by decide⟩ ?_
  rw [e30]
  repeat walk_at "x"
  rw [etm]
  repeat walk_at "x"
  rw [decide_eq_true rfl]
  repeat walk_at "x"
  refine e_lst ?_
  repeat walk_at "x"
  refine ⟨_, .int 1, rfl, .inr (.inr ⟨1, seen3, rfl, by decide, .inl (.p _), by decide, seen3_ok, fun b2 => ?_⟩)⟩
  rw [y_fit]
  repeat walk_at "x"
  refine e_lst ?_
  repeat walk_at "x"
  refine oe_c (lC ssC) [[[2, -1]]] [[[2, -1]]] (.own (.head _)) (.p _) rfl ?_
  rw [decide_eq_true rfl]
  exact p _
end

section
open PySem PySem.Spec PyProof.Rows L2
open Evl (Ex)
theorem ord_1432 : OrdOk [1, 4, 3, 2] := by
  rw [← y_ordAt]
  exact orderN_ok (so2 st_12 st_12).ords _
theorem lens_at {i : Nat} (h : i < lens8.length) : (lens8.map natI).getD i .none = natI (lens8.getD i 0) := by rw [getD_map h, getD_at h]
theorem lens_le {i : Nat} : lens8.getD i 0 ≤ 52 := by
  rcases Nat.lt_or_ge i 8 with h | h
  · revert i; decide
  · rw [List.getD_eq_getElem?_getD, List.getElem?_eq_none (by show 8 ≤ i; exact h)]; decide
theorem ok_evens21 {m : Md} {f I I2 T : Addr} {fd : FuncData} {k : Nat} (F : Fun m.K "_law_evens" "_law_evens" S__law_evens f fd) (F1 : Fd m CX0 k "orders" phOrds) (F2 : Fd m CX0 k "is_steady" phSteady) (F3 : Fd m CX0 k "order_at" phOrdAt) (F4 : Fd m CX0 k "read_by" phRdBy) (F5 : Fd m CX0 k "done" phDone) (F6 : Fd m CX0 k "agreeing" phAgree) (F7 : Fd m CX0 k "parting" phPart)
    (F8 : Fd m (L2.CX m.P m.w) k "still" (phStill I T)) (F9 : Fd m (L2.CX m.P m.w) k "rounds" (phRounds I2)) (FS : MkS m (k - 1) (phInit m.C)) (S : ClsS m) (h1 : 1 ≤ k) :
    FnOk m.P m.w m.K m.mg m.base CX0 (k + 1) f fd A__law_evens (spOf m.G phYes) := by
  refine fn_ok F sc__law_evens (fun ds M P R h => by obtain ⟨rfl, _⟩ := h; rfl) (fun c ds M P R hc o hl h => ?_)
  subst hc
  obtain ⟨rfl, p⟩ := h
  show Eb c [none, none, none] M _ _
  refine b_cons' (by rfl) ?_
  repeat walk_at "x"
  intro x dx
  refine ⟨x, dx, [[1, 2]], _, rfl, rfl, so1 st_12, rfl, 0, _, rfl, ?_⟩
  repeat walk_at "x"
  intro x dx
  refine ⟨x, dx, [[1, 2], [1, 2]], _, rfl, rfl, so2 st_12 st_12, rfl, 0, _, rfl, ?_⟩
  repeat walk_at "x"
  refine ⟨_, _, rfl, ?_⟩
  repeat walk_at "x"
  refine ⟨[[1, 2], [1, 2]], rfl, so2 st_12 st_12, ?_⟩
  rw [y_ords]
  repeat walk_at "x"
  refine on_c ssC [[1, 2, 3, 4], [1, 4, 3, 2], [1, 4, 3, 2], [1, 2, 3, 4]] [[1, 2, 3, 4], [1, 4, 3, 2], [1, 4, 3, 2], [1, 2, 3, 4]] (.p _) (.p _) rfl ?_
  rw [decide_eq_true rfl]
  repeat walk_at "x"
  refine ⟨[[1, 2], [1, 2]], rfl, so2 st_12 st_12, ?_⟩
  rw [y_steady]
  repeat walk_at "x"
  refine ⟨[[1, 2], [1, 2]], 5, rfl, so2 st_12 st_12, by decide, ?_⟩
  rw [y_ordAt]
  repeat walk_at "x"
  refine ⟨[1, 4, 3, 2], _, rfl, ord_1432, by decide, TxtK.s y_rdBy (by decide) ?_⟩
  repeat walk_at "x"
  rw [decide_eq_true rfl]
  repeat walk_at "x"
  refine ⟨[[1, 2], [1, 2]], _, rfl, so2 st_12 st_12, TxtK.s y_done3 (by decide) ?_⟩
  repeat walk_at "x"
  rw [decide_eq_true rfl]
  repeat walk_at "x"
  intro x dx
  refine ⟨x, dx, [], _, rfl, rfl, so0, rfl, 0, _, rfl, ?_⟩
  repeat walk_at "x"
  refine ⟨[[1, 2]], [], rfl, so1 st_12, so0, ?_⟩
  rw [y_agr1]
  repeat walk_at "x"
  refine on_dat (d := .tuple [natI 3, natI 1, .tuple [], .tuple [natI 0, natI 1, natI 2]]) (e := .tuple [.int 3, .int 1, .tuple [], .tuple [.int 0, .int 1, .int 2]]) (.p _) (.p _) rfl rfl ?_
  rw [show PyData.eqv (.tuple [natI 3, natI 1, .tuple [], .tuple [natI 0, natI 1, natI 2]]) (.tuple [.int 3, .int 1, .tuple [], .tuple [.int 0, .int 1, .int 2]]) = true by decide +kernel]
  repeat walk_at "x"
  intro x dx
  refine ⟨x, dx, [], _, rfl, rfl, so0, rfl, 0, _, rfl, ?_⟩
  repeat walk_at "x"
  refine ⟨[[1, 2]], [], rfl, so1 st_12, so0, fun z => absurd z (by decide +kernel), fun n i hL => ?_⟩
  obtain ⟨rfl, rfl⟩ := hL.uniq y_part1
  repeat walk_at "x"
  refine on_c (tC iC) [3, 1] [3, 1] (.p _) (.p _) rfl ?_
  rw [decide_eq_true rfl]
  repeat walk_at "x"
  refine o_pow ⟨by decide, by decide, by decide⟩ ?_
  rw [e30]
  repeat walk_at "x"
  refine ⟨[[1, 2]], natI TOP, rfl, so1 st_12, fun h => absurd h (by rw [len_ok (Nat.le_refl _)]; decide), fun _ h => absurd h (by rw [a_12]; decide), fun n' hn' _ _ b ms hS => ?_⟩
  obtain rfl : TOP = n' := Int.natCast_inj.mp (by injection hn')
  rw [y_still1 hS]
  repeat walk_at "x"
  refine e_lst ?_
  repeat walk_at "x"
  refine o_pow ⟨by decide, by decide, by decide⟩ ?_
  rw [e30]
  repeat walk_at "x"
  rw [etm]
  repeat walk_at "x"
  refine on_c (lC nC) [0, TOP - 1] [0, TOP - 1] (.own (.head _)) (.p _) rfl ?_
  rw [decide_eq_true rfl]
  repeat walk_at "x"
  refine o_pow ⟨by decide, by decide, by decide⟩ ?_
  rw [e30]
  repeat walk_at "x"
  rw [etm]
  repeat walk_at "x"
  refine ⟨[[1, 2]], natI (TOP - 1), rfl, so1 st_12, fun h => absurd h (by rw [len_ok (Nat.le_of_lt top_pred)]; decide), fun _ h => absurd h (by rw [a_12]; decide), fun n' hn' _ _ b ms hS => ?_⟩
  obtain rfl : (TOP - 1) = n' := Int.natCast_inj.mp (by injection hn')
  rw [y_still2 hS]
  repeat walk_at "x"
  refine e_lst ?_
  repeat walk_at "x"
  refine on_c (lC nC) [0] [0] (.own (.head _)) (.p _) rfl ?_
  rw [decide_eq_true rfl]
  repeat walk_at "x"
  refine e_lcM [("_law_length", 2)] o rfl (fun _ => rfl) ?_
  refine i_list o ?_
  refine e_lst ?_
  repeat walk_at "x"
  refine ⟨fun i => natI (rnds8.getD i 0), by decide, fun _ _ => .p _, fun i acc a hi X1 o1 => ?_, fun a => ?_⟩
  · have hi8 : i < 8 := hi
    have hl52 := lens_le (i := i)
    obtain ⟨g1, g2, g3⟩ := y_rounds i hi8
    dsimp only
    rw [show ([.int 0, .int 1, .int 2, .int 3, .int 4, .int 5, .int 8, .int 52] : List PyData) = lens8.map natI from rfl, lens_at hi8]
    generalize rnds8.getD i 0 = K at g1 g2 g3 ⊢
    generalize lens8.getD i 0 = n at hl52 g2 g3 ⊢
    repeat walk_at "x"
    intro X2 o2
    repeat walk_at "x"
    refine ⟨[[1, 2]], natI n, rfl, so1 st_12, fun h => absurd h (by rw [len_ok (Nat.le_trans hl52 (by decide))]; decide), fun _ => ⟨n, rfl, by omega, fun L hL => ?_⟩⟩
    rw [round_val hL g1 g2 g3]
    exact ⟨rfl, rfl⟩
  repeat walk_at "x"
  refine e_lst ?_
  repeat walk_at "x"
  refine oe_c (lC nC) rnds8 rnds8 (.own (.head _)) (.p _) rfl ?_
  rw [decide_eq_true rfl]
  exact p _
end

section
open PySem PySem.Spec PyProof.Rows L2
open Evl (Ex)
theorem ok_turned21 {m : Md} {f I I2 T A : Addr} {fd : FuncData} {k : Nat} (F : Fun m.K "_law_turned" "_law_turned" S__law_turned f fd) (F1 : Fd m (L2.CX m.P m.w) k "still" (phStill I T)) (F2 : Fd m (L2.CX m.P m.w) k "rounds" (phRounds I2)) (FA : SpS m k "__add__" (phAdd A)) (hsf : PySem.W.selfFirst m.K m.C = true) (F3 : Fd m CX0 k "agreeing" phAgree) (F4 : Fd m CX0 k "exchangeable" phExch) (F5 : Fd m CX0 k "shortest" phShort)
    (F6 : Fd m CX0 k "parting" phPart) (F7 : Fd m CX0 k "alike" phAreA) (FS : MkS m (k - 1) (phInit m.C)) (S : ClsS m) (h1 : 1 ≤ k) :
    FnOk m.P m.w m.K m.mg m.base CX0 (k + 1) f fd A__law_turned (spOf m.G phYes) := by
  refine fn_ok F sc__law_turned (fun ds M P R h => by obtain ⟨rfl, _⟩ := h; rfl) (fun c ds M P R hc o hl h => ?_)
  subst hc
  obtain ⟨rfl, p⟩ := h
  show Eb c [none, none] M _ _
  refine b_cons' (by rfl) ?_
  repeat walk_at "x"
  intro x dx
  refine ⟨x, dx, [[-1]], _, rfl, rfl, so1 st_m, rfl, 0, _, rfl, ?_⟩
  repeat walk_at "x"
  intro x dx
  refine ⟨x, dx, [[1, 2]], _, rfl, rfl, so1 st_12, rfl, 0, _, rfl, ?_⟩
  repeat walk_at "x"
  refine ⟨_, _, rfl, ?_⟩
  repeat walk_at "x"
  refine ⟨[[-1]], natI 7, rfl, so1 st_m, fun h => absurd h (by rw [len_ok (by decide)]; decide), fun _ h => absurd h (by rw [a_m]; decide), fun n' hn' _ _ b ms hS => ?_⟩
  obtain rfl : 7 = n' := Int.natCast_inj.mp (by injection hn')
  rw [y_still3 hS]
  repeat walk_at "x"
  refine e_lst ?_
  repeat walk_at "x"
  refine on_c (lC nC) [3] [3] (.own (.head _)) (.p _) rfl ?_
  rw [decide_eq_true rfl]
  repeat walk_at "x"
  refine ⟨[[-1]], natI 8, rfl, so1 st_m, fun h => absurd h (by rw [len_ok (by decide)]; decide), fun _ h => absurd h (by rw [a_m]; decide), fun n' hn' _ _ b ms hS => ?_⟩
  obtain rfl : 8 = n' := Int.natCast_inj.mp (by injection hn')
  rw [y_still4 hS]
  repeat walk_at "x"
  refine e_lst ?_
  repeat walk_at "x"
  refine on_c (lC nC) [] [] (.own (.head _)) (.p _) rfl ?_
  rw [decide_eq_true rfl]
  repeat walk_at "x"
  refine ⟨[[-1]], natI 9, rfl, so1 st_m, fun h => absurd h (by rw [len_ok (by decide)]; decide), fun _ => ⟨9, rfl, by decide, fun L hL => ?_⟩⟩
  rw [y_round2 hL]
  repeat walk_at "x"
  rw [decide_eq_true (show ((2 : Nat) : Int) = 2 from rfl)]
  repeat walk_at "x"
  refine oa_scr FA hsf o (Nat.le_refl _) ⟨[[-1]], [[1, 2]], rfl, (so1 st_m), (so1 st_12), fun z => absurd z (by decide), fun _ => ?_⟩
  repeat walk_at "x"
  refine oa_scr FA hsf o (Nat.le_refl _) ⟨[[1, 2]], [[-1]], rfl, (so1 st_12), (so1 st_m), fun z => absurd z (by decide), fun _ => ?_⟩
  repeat walk_at "x"
  refine ⟨[[-1], [1, 2]], [[1, 2], [-1]], rfl, so2 st_m st_12, so2 st_12 st_m, ?_⟩
  rw [y_agr2]
  repeat walk_at "x"
  refine on_dat (d := .tuple [natI 2, natI 2, .tuple [natI 0], .tuple [natI 0, natI 1]]) (e := .tuple [.int 2, .int 2, .tuple [.int 0], .tuple [.int 0, .int 1]]) (.p _) (.p _) rfl rfl ?_
  rw [show PyData.eqv (.tuple [natI 2, natI 2, .tuple [natI 0], .tuple [natI 0, natI 1]]) (.tuple [.int 2, .int 2, .tuple [.int 0], .tuple [.int 0, .int 1]]) = true by decide +kernel]
  repeat walk_at "x"
  refine oa_scr FA hsf o (Nat.le_refl _) ⟨[[1, 2]], [[-1]], rfl, (so1 st_12), (so1 st_m), fun z => absurd z (by decide), fun _ => ?_⟩
  repeat walk_at "x"
  refine ⟨[[1, 2], [-1]], rfl, so2 st_12 st_m, fun b => ?_⟩
  rw [y_exch]
  repeat walk_at "x"
  refine e_lst ?_
  repeat walk_at "x"
  refine on_c (lC nC) [] [] (.own (.head _)) (.p _) rfl ?_
  rw [decide_eq_true rfl]
  repeat walk_at "x"
  refine oa_scr FA hsf o (Nat.le_refl _) ⟨[[1, 2]], [[-1]], rfl, (so1 st_12), (so1 st_m), fun z => absurd z (by decide), fun _ => ?_⟩
  repeat walk_at "x"
  refine ⟨[[1, 2], [-1]], rfl, so2 st_12 st_m, fun b => ?_⟩
  rw [y_short1]
  repeat walk_at "x"
  refine e_lst ?_
  repeat walk_at "x"
  refine on_c (lC ssC) [[[-2, -1]]] [[[-2, -1]]] (.own (.head _)) (.p _) rfl ?_
  rw [decide_eq_true rfl]
  repeat walk_at "x"
  refine oa_scr FA hsf o (Nat.le_refl _) ⟨[[-1]], [[-1]], rfl, (so1 st_m), (so1 st_m), fun z => absurd z (by decide), fun _ => ?_⟩
  repeat walk_at "x"
  refine ⟨[[-1], [-1]], rfl, so2 st_m st_m, fun b => ?_⟩
  rw [y_short2]
  repeat walk_at "x"
  refine e_lst ?_
  repeat walk_at "x"
  refine on_c (lC ssC) [[]] [[]] (.own (.head _)) (.p _) rfl ?_
  rw [decide_eq_true rfl]
  repeat walk_at "x"
  intro x dx
  refine ⟨x, dx, [[2, 1]], _, rfl, rfl, so1 st_21, rfl, 0, _, rfl, ?_⟩
  repeat walk_at "x"
  refine ⟨[[1, 2]], [[2, 1]], rfl, so1 st_12, so1 st_21, fun z => absurd z (by decide +kernel), fun n i hL => ?_⟩
  obtain ⟨rfl, rfl⟩ := hL.uniq y_part2
  repeat walk_at "x"
  refine oe_c (tC iC) [2, 0] [2, 0] (.p _) (.p _) rfl ?_
  rw [decide_eq_true rfl]
  refine ⟨_, rfl, fun _ => ?_, fun z => absurd z (by decide)⟩
  repeat walk_at "x"
  refine oa_scr FA hsf o (Nat.le_refl _) ⟨[[-1]], [[-1]], rfl, (so1 st_m), (so1 st_m), fun z => absurd z (by decide), fun _ => ?_⟩
  repeat walk_at "x"
  repeat walk_at "x"
  intro x dx
  refine ⟨x, dx, [[1]], _, rfl, rfl, so1 st_1, rfl, 0, _, rfl, ?_⟩
  repeat walk_at "x"
  refine ⟨[[-1], [-1]], [[1]], rfl, so2 st_m st_m, so1 st_1, ?_⟩
  rw [decide_eq_true y_alike]
  exact p _
end

section
open PySem PySem.Spec PyProof.Rows L2
open Evl (Ex)
theorem ok_law {m : Md} {f B : Addr} {fd : FuncData} {k : Nat} (F : Fun m.K "law" "law" S_law f fd) (Fmix : Fd m CX0 k "_law_mix" phMix) (Fpk : Fd m CX0 k "_law_pick" phPick) (F1 : Fd m CX0 k "_law_rows" phYes) (F2 : Fd m CX0 k "_law_evens" phYes) (F3 : Fd m CX0 k "_law_turned" phYes)
    (C : BnC m B) (FB : MkB m B (k - 1) (phBnI B)) (FD : MtB m B k "read" (phBnRead B)) (PL : PrB m B (k - 1) "left" (phBnLeft B)) (h1 : 1 ≤ k) :
    FnOk m.P m.w m.K m.mg m.base CX0 (k + 1) f fd A_law (spOf m.G phLaw) := by
  refine fn_ok F sc_law (fun ds M P R h => by obtain ⟨ns, rfl, _⟩ := h; rfl) (fun c ds M P R hc o hl h => ?_)
  subst hc
  obtain ⟨ns, rfl, hn, p⟩ := h
  show Eb c [some (.scp ns), none, none, none] M _ _
  refine b_cons' (by rfl) ?_
  repeat walk_at "x"
  refine ⟨ns, 21, rfl, ⟨by decide, by decide⟩, hn, fun a d => ?_⟩
  repeat walk_at "x"
  refine e_lst ?_
  repeat walk_at "x"
  refine ⟨a, d, _, _, rfl, .head _, .p _, ⟨Nat.succ_pos _, by show 3 ≤ 1000; decide⟩, fun q hq => ?_⟩
  simp only [List.mem_cons, List.not_mem_nil, or_false] at hq
  rcases hq with rfl | rfl | rfl
  · repeat walk_at "x"
    refine ⟨fun _ => ?_, fun z => absurd z (by decide)⟩
    repeat walk_at "x"
    exact ⟨rfl, p⟩
  · repeat walk_at "x"
    refine ⟨fun z => absurd z (by decide), fun _ => ?_⟩
    repeat walk_at "x"
    refine ⟨fun _ => ?_, fun z => absurd z (by decide)⟩
    repeat walk_at "x"
    exact ⟨rfl, p⟩
  · repeat walk_at "x"
    refine ⟨fun z => absurd z (by decide), fun _ => ?_⟩
    repeat walk_at "x"
    refine ⟨fun z => absurd z (by decide), fun _ => ?_⟩
    repeat walk_at "x"
    refine e_mkB FB C.S o (by omega) rfl (by decide) rfl rfl ?_
    repeat walk_at "x"
    intro x dx
    refine ⟨x, dx, _, (signsS "abcde").map .str, .str "abcde", (a, Cell.law d) :: M, rfl, rfl, .inl ⟨"abcde", rfl, by decide, rfl, rfl⟩, by decide, fun r s u => ⟨rfl, ?_⟩⟩
    rw [show ((signsS "abcde").map PyData.str).length = 5 by decide]
    repeat walk_at "x"
    refine e_metB FD C.S o (Nat.le_refl _) rfl rfl rfl ?_
    repeat walk_at "x"
    refine ⟨x, dx, bnF ⟨x, dx, r, s, u⟩ (.str "abcde"), rfl, .head _, rfl, ?_⟩
    repeat walk_at "x"
    refine ⟨⟨x, dx, r, s, u⟩, .str "abcde", 5, [], [], (a, Cell.law d) :: M, [2, 1], (signsS "abcde").map .str, rfl, rfl, ⟨(so1 st_21).2, by simp, by decide, by decide, by decide⟩, fun M' => .inl ⟨"abcde", rfl, by decide, rfl⟩, by decide, fun u2 => .inl ⟨"abcde", rfl, by decide, ?_⟩⟩
    rw [show Str.join "" (doneIt ([] ++ [[2, 1]]) (signsS "abcde")) = "bdace" from y_bn1]
    repeat walk_at "x"
    rw [decide_eq_true rfl]
    repeat walk_at "x"
    refine e_metB FD C.S o (Nat.le_refl _) rfl rfl rfl ?_
    repeat walk_at "x"
    refine ⟨x, dx, bnF ⟨x, dx, r, s, u2⟩ (.str "abcde"), rfl, .head _, rfl, ?_⟩
    repeat walk_at "x"
    refine ⟨⟨x, dx, r, s, u2⟩, .str "abcde", 5, [[2, 1]], [], (a, Cell.law d) :: M, [-1], (signsS "abcde").map .str, rfl, rfl, ⟨(so2 st_21 st_m).2, by simp, by decide, by decide, by decide⟩, fun M' => .inl ⟨"abcde", rfl, by decide, rfl⟩, by decide, fun u3 => .inl ⟨"abcde", rfl, by decide, ?_⟩⟩
    rw [show Str.join "" (doneIt ([[2, 1]] ++ [[-1]]) (signsS "abcde")) = "ecadb" from y_bn2]
    repeat walk_at "x"
    rw [decide_eq_true rfl]
    repeat walk_at "x"
    refine e_prB PL C.S o (by omega) rfl ?_
    repeat walk_at "x"
    refine ⟨x, dx, bnF ⟨x, dx, r, s, u3⟩ (.str "abcde"), rfl, .head _, ⟨x, dx, r, s, u3⟩, .str "abcde", 5, [[2, 1], [-1]], [], _, rfl, rfl, ?_⟩
    rw [y_bn3]
    repeat walk_at "x"
    refine on_c (tC nC) [4, 2, 0, 3, 1] [4, 2, 0, 3, 1] (.p _) (.p _) rfl ?_
    rw [decide_eq_true rfl]
    repeat walk_at "x"
    exact ⟨rfl, p⟩
end

section
open PySem PySem.Spec PyProof.Rows L2
open Evl (Ex)
def strVals : List Value → Option (List Str)
  | [] => some []
  | .str s _ :: r => (strVals r).map (s :: ·)
  | _ => none
theorem strVals_ok : ∀ {us : List Value} {ss : List Str}, strVals us = some ss → Vals (ss.map V.str) us
  | [], _, h => by cases h; exact .nil
  | u :: us, ss, h => by
    cases u with
    | str s t =>
      have h : (strVals us).map (s :: ·) = some ss := h
      cases e : strVals us with
      | none => rw [e] at h; cases h
      | some r => rw [e] at h; cases h; exact .cons ⟨t, rfl⟩ (strVals_ok e)
    | _ => cases h
def intVals : List Value → Option (List Int)
  | [] => some []
  | .int s _ :: r => (intVals r).map (s :: ·)
  | _ => none
theorem intVals_ok : ∀ {us : List Value} {ss : List Int}, intVals us = some ss → Vals (ss.map V.int) us
  | [], _, h => by cases h; exact .nil
  | u :: us, ss, h => by
    cases u with
    | int s t =>
      have h : (intVals us).map (s :: ·) = some ss := h
      cases e : intVals us with
      | none => rw [e] at h; cases h
      | some r => rw [e] at h; cases h; exact .cons ⟨t, rfl⟩ (intVals_ok e)
    | _ => cases h
def spLaw (K : PySem.W.Frag) : Sp := fun vs H Q _ => ∃ (a : Addr) (ns : List Int), vs = [.ref a] ∧ SqL K H a (ns.map V.int) ∧ ns.length ≤ 63 ∧ ∀ H', Q (.bl true) H'
theorem sp_law {G : Gm} {vs : List V} {H : Hp} {Q : VK} {E : XK} (h : spLaw G.K vs H Q E) : spOf G phLaw vs H Q E := by
  obtain ⟨a, ns, rfl, hS, hl, q⟩ := h
  refine ⟨H, [], [.scp ns], fun d _ => d = dB true, fun _ _ _ => False, ⟨Evl.Ex.refl H, fun _ _ h => (nomatch h), .nil, fun _ h => (nomatch h)⟩, ⟨⟨a, rfl, hS⟩, trivial⟩, ⟨ns, rfl, hl, fun _ => rfl⟩, fun d M' v H' H2 p _ i => ?_, fun _ _ _ _ _ _ _ z => z.elim⟩
  subst p
  rw [i.bl]; exact q H2
abbrev S_TooLong___init__ : Stmt := inClass (topS 4) 0
abbrev S_InvalidLength___init__ : Stmt := inClass (topS 5) 0
abbrev S_AllStill___init__ : Stmt := inClass (topS 7) 0
abbrev S_InvalidLimit___init__ : Stmt := inClass (topS 8) 0
abbrev S_InvalidSeen___init__ : Stmt := inClass (topS 9) 0
theorem all_mk {l : PySem.W.OpenLaw} {w : World} {K : PySem.W.Frag} {h : Heap} {mg : Str → Option Value} {fa C : Addr} (X : K.In h) (G : h.Ns mainGlobals mg) (hfa : mg "law" = some (.ref fa)) (yC : PySem.W.nsIn K mainGlobals "Script" = some (some (.ref C)))
    {B : Addr}
    {f0 : Addr} {od0 an0 : Option Addr} {sl0 : Array (Option Value)} {oc0 kV0 dc0 pm0 cd0 ct0 : Value}
    {f1 : Addr} {od1 an1 : Option Addr} {sl1 : Array (Option Value)} {oc1 kV1 dc1 pm1 cd1 ct1 : Value}
    {f2 : Addr} {od2 an2 : Option Addr} {sl2 : Array (Option Value)} {oc2 kV2 dc2 pm2 cd2 ct2 : Value}
    {f3 : Addr} {od3 an3 : Option Addr} {sl3 : Array (Option Value)} {oc3 kV3 dc3 pm3 cd3 ct3 : Value}
    {f4 : Addr} {od4 an4 : Option Addr} {sl4 : Array (Option Value)} {oc4 kV4 dc4 pm4 cd4 ct4 : Value}
    {f5 : Addr} {od5 an5 : Option Addr} {sl5 : Array (Option Value)} {oc5 kV5 dc5 pm5 cd5 ct5 : Value}
    {f6 : Addr} {od6 an6 : Option Addr} {sl6 : Array (Option Value)} {oc6 kV6 dc6 pm6 cd6 ct6 : Value}
    {f7 : Addr} {od7 an7 : Option Addr} {sl7 : Array (Option Value)} {oc7 kV7 dc7 pm7 cd7 ct7 : Value}
    {f8 : Addr} {od8 an8 : Option Addr} {sl8 : Array (Option Value)} {oc8 kV8 dc8 pm8 cd8 ct8 : Value}
    {f9 : Addr} {od9 an9 : Option Addr} {sl9 : Array (Option Value)} {oc9 kV9 dc9 pm9 cd9 ct9 : Value}
    {f10 : Addr} {od10 an10 : Option Addr} {sl10 : Array (Option Value)} {oc10 kV10 dc10 pm10 cd10 ct10 : Value}
    {f11 : Addr} {od11 an11 : Option Addr} {sl11 : Array (Option Value)} {oc11 kV11 dc11 pm11 cd11 ct11 : Value}
    {f12 : Addr} {od12 an12 : Option Addr} {sl12 : Array (Option Value)} {oc12 kV12 dc12 pm12 cd12 ct12 : Value}
    {f13 : Addr} {od13 an13 : Option Addr} {sl13 : Array (Option Value)} {oc13 kV13 dc13 pm13 cd13 ct13 : Value}
    {f14 : Addr} {od14 an14 : Option Addr} {sl14 : Array (Option Value)} {oc14 kV14 dc14 pm14 cd14 ct14 : Value}
    {f15 : Addr} {od15 an15 : Option Addr} {sl15 : Array (Option Value)} {oc15 kV15 dc15 pm15 cd15 ct15 : Value}
    {f16 : Addr} {od16 an16 : Option Addr} {sl16 : Array (Option Value)} {oc16 kV16 dc16 pm16 cd16 ct16 : Value}
    {f17 : Addr} {od17 an17 : Option Addr} {sl17 : Array (Option Value)} {oc17 kV17 dc17 pm17 cd17 ct17 : Value}
    {f18 : Addr} {od18 an18 : Option Addr} {sl18 : Array (Option Value)} {oc18 kV18 dc18 pm18 cd18 ct18 : Value}
    {f19 : Addr} {od19 an19 : Option Addr} {sl19 : Array (Option Value)} {oc19 kV19 dc19 pm19 cd19 ct19 : Value}
    {f20 : Addr} {od20 an20 : Option Addr} {sl20 : Array (Option Value)} {oc20 kV20 dc20 pm20 cd20 ct20 : Value}
    {f21 : Addr} {od21 an21 : Option Addr} {sl21 : Array (Option Value)} {oc21 kV21 dc21 pm21 cd21 ct21 : Value}
    {f22 : Addr} {od22 an22 : Option Addr} {sl22 : Array (Option Value)} {oc22 kV22 dc22 pm22 cd22 ct22 : Value}
    {f23 : Addr} {od23 an23 : Option Addr} {sl23 : Array (Option Value)} {oc23 kV23 dc23 pm23 cd23 ct23 : Value}
    {f24 : Addr} {od24 an24 : Option Addr} {sl24 : Array (Option Value)} {oc24 kV24 dc24 pm24 cd24 ct24 : Value}
    {f25 : Addr} {od25 an25 : Option Addr} {sl25 : Array (Option Value)} {oc25 kV25 dc25 pm25 cd25 ct25 : Value}
    {f26 : Addr} {od26 an26 : Option Addr} {sl26 : Array (Option Value)} {oc26 kV26 dc26 pm26 cd26 ct26 : Value}
    {f27 : Addr} {od27 an27 : Option Addr} {sl27 : Array (Option Value)} {oc27 kV27 dc27 pm27 cd27 ct27 : Value}
    {f28 : Addr} {od28 an28 : Option Addr} {sl28 : Array (Option Value)} {oc28 kV28 dc28 pm28 cd28 ct28 : Value}
    {f29 : Addr} {od29 an29 : Option Addr} {sl29 : Array (Option Value)} {oc29 kV29 dc29 pm29 cd29 ct29 : Value}
    {f30 : Addr} {od30 an30 : Option Addr} {sl30 : Array (Option Value)} {oc30 kV30 dc30 pm30 cd30 ct30 : Value}
    {f31 : Addr} {od31 an31 : Option Addr} {sl31 : Array (Option Value)} {oc31 kV31 dc31 pm31 cd31 ct31 : Value}
    {f32 : Addr} {od32 an32 : Option Addr} {sl32 : Array (Option Value)} {oc32 kV32 dc32 pm32 cd32 ct32 : Value}
    {f33 : Addr} {od33 an33 : Option Addr} {sl33 : Array (Option Value)} {oc33 kV33 dc33 pm33 cd33 ct33 : Value}
    {f34 : Addr} {od34 an34 : Option Addr} {sl34 : Array (Option Value)} {oc34 kV34 dc34 pm34 cd34 ct34 : Value}
    {f35 : Addr} {od35 an35 : Option Addr} {sl35 : Array (Option Value)} {oc35 kV35 dc35 pm35 cd35 ct35 : Value}
    {f36 : Addr} {od36 an36 : Option Addr} {sl36 : Array (Option Value)} {oc36 kV36 dc36 pm36 cd36 ct36 : Value}
    {f37 : Addr} {od37 an37 : Option Addr} {sl37 : Array (Option Value)} {oc37 kV37 dc37 pm37 cd37 ct37 : Value}
    {f38 : Addr} {od38 an38 : Option Addr} {sl38 : Array (Option Value)} {oc38 kV38 dc38 pm38 cd38 ct38 : Value}
    {f39 : Addr} {od39 an39 : Option Addr} {sl39 : Array (Option Value)} {oc39 kV39 dc39 pm39 cd39 ct39 : Value}
    {f40 : Addr} {od40 an40 : Option Addr} {sl40 : Array (Option Value)} {oc40 kV40 dc40 pm40 cd40 ct40 : Value}
    {f41 : Addr} {od41 an41 : Option Addr} {sl41 : Array (Option Value)} {oc41 kV41 dc41 pm41 cd41 ct41 : Value}
    {f42 : Addr} {od42 an42 : Option Addr} {sl42 : Array (Option Value)} {oc42 kV42 dc42 pm42 cd42 ct42 : Value}
    {f43 : Addr} {od43 an43 : Option Addr} {sl43 : Array (Option Value)} {oc43 kV43 dc43 pm43 cd43 ct43 : Value}
    {f44 : Addr} {od44 an44 : Option Addr} {sl44 : Array (Option Value)} {oc44 kV44 dc44 pm44 cd44 ct44 : Value}
    {f45 : Addr} {od45 an45 : Option Addr} {sl45 : Array (Option Value)} {oc45 kV45 dc45 pm45 cd45 ct45 : Value}
    {f46 : Addr} {od46 an46 : Option Addr} {sl46 : Array (Option Value)} {oc46 kV46 dc46 pm46 cd46 ct46 : Value}
    {f47 : Addr} {od47 an47 : Option Addr} {sl47 : Array (Option Value)} {oc47 kV47 dc47 pm47 cd47 ct47 : Value}
    {f48 : Addr} {od48 an48 : Option Addr} {sl48 : Array (Option Value)} {oc48 kV48 dc48 pm48 cd48 ct48 : Value}
    {f49 : Addr} {od49 an49 : Option Addr} {sl49 : Array (Option Value)} {oc49 kV49 dc49 pm49 cd49 ct49 : Value}
    {f50 : Addr} {od50 an50 : Option Addr} {sl50 : Array (Option Value)} {oc50 kV50 dc50 pm50 cd50 ct50 : Value}
    {f51 : Addr} {od51 an51 : Option Addr} {sl51 : Array (Option Value)} {oc51 kV51 dc51 pm51 cd51 ct51 : Value}
    {f52 : Addr} {od52 an52 : Option Addr} {sl52 : Array (Option Value)} {oc52 kV52 dc52 pm52 cd52 ct52 : Value}
    {p52 : Addr} {rest52 : List Value}
    {f53 : Addr} {od53 an53 : Option Addr} {sl53 : Array (Option Value)} {oc53 kV53 dc53 pm53 cd53 ct53 : Value}
    {f54 : Addr} {od54 an54 : Option Addr} {sl54 : Array (Option Value)} {oc54 kV54 dc54 pm54 cd54 ct54 : Value}
    {f55 : Addr} {od55 an55 : Option Addr} {sl55 : Array (Option Value)} {oc55 kV55 dc55 pm55 cd55 ct55 : Value}
    {p55 : Addr} {rest55 : List Value}
    {f56 : Addr} {od56 an56 : Option Addr} {sl56 : Array (Option Value)} {oc56 kV56 dc56 pm56 cd56 ct56 : Value}
    {f57 : Addr} {od57 an57 : Option Addr} {sl57 : Array (Option Value)} {oc57 kV57 dc57 pm57 cd57 ct57 : Value}
    {tk_MOST_WIDE : Tok}
    {tk_MOST_STEPS : Tok}
    {tk_MOST_FITTING : Tok}
    {tk_MOST_LENGTH : Tok}
    {q_SAME : Addr} {qd_SAME : Option Addr} {qi_SAME : Array Value} {qn_SAME : Nat} {qs_SAME : Array (Option Value)}
    {q_FIRST r_FIRST : Addr} {qd_FIRST rd_FIRST : Option Addr} {qi_FIRST ri_FIRST : Array Value} {qn_FIRST rn_FIRST : Nat} {qs_FIRST rs_FIRST : Array (Option Value)}
    {RE_ : Addr}
    {T_TooLong g_TooLong cc_TooLong cda_TooLong NN_TooLong : Addr} {nm_TooLong qq_TooLong : Str} {bs_TooLong bm_TooLong sub_TooLong : List Value} {sn_TooLong : List Str} {ab_TooLong : Bool} {col_TooLong : Option Bool} {dd_TooLong : Option Addr} {e0_TooLong e1_TooLong e2_TooLong e3_TooLong e5_TooLong : Option Value} {oc_TooLong dc_TooLong pm_TooLong ct_TooLong u1_TooLong u4_TooLong : Value} {od_TooLong u2_TooLong u5_TooLong : Option Addr} {sl_TooLong u3_TooLong u6_TooLong : Array (Option Value)} {vs_TooLong : Array Value} {fi_TooLong : Str} {tf_TooLong : Tok}
    {T_InvalidLength g_InvalidLength cc_InvalidLength cda_InvalidLength NN_InvalidLength : Addr} {nm_InvalidLength qq_InvalidLength : Str} {bs_InvalidLength bm_InvalidLength sub_InvalidLength : List Value} {sn_InvalidLength : List Str} {ab_InvalidLength : Bool} {col_InvalidLength : Option Bool} {dd_InvalidLength : Option Addr} {e0_InvalidLength e1_InvalidLength e2_InvalidLength e3_InvalidLength e5_InvalidLength : Option Value} {oc_InvalidLength dc_InvalidLength pm_InvalidLength ct_InvalidLength u1_InvalidLength u4_InvalidLength : Value} {od_InvalidLength u2_InvalidLength u5_InvalidLength : Option Addr} {sl_InvalidLength u3_InvalidLength u6_InvalidLength : Array (Option Value)} {vs_InvalidLength : Array Value} {fi_InvalidLength : Str} {tf_InvalidLength : Tok}
    {T_AllStill g_AllStill cc_AllStill cda_AllStill NN_AllStill : Addr} {nm_AllStill qq_AllStill : Str} {bs_AllStill bm_AllStill sub_AllStill : List Value} {sn_AllStill : List Str} {ab_AllStill : Bool} {col_AllStill : Option Bool} {dd_AllStill : Option Addr} {e0_AllStill e1_AllStill e2_AllStill e3_AllStill e5_AllStill : Option Value} {oc_AllStill dc_AllStill pm_AllStill ct_AllStill u1_AllStill u4_AllStill : Value} {od_AllStill u2_AllStill u5_AllStill : Option Addr} {sl_AllStill u3_AllStill u6_AllStill : Array (Option Value)} {vs_AllStill : Array Value} {fi_AllStill : Str} {tf_AllStill : Tok}
    {T_InvalidLimit g_InvalidLimit cc_InvalidLimit cda_InvalidLimit NN_InvalidLimit : Addr} {nm_InvalidLimit qq_InvalidLimit : Str} {bs_InvalidLimit bm_InvalidLimit sub_InvalidLimit : List Value} {sn_InvalidLimit : List Str} {ab_InvalidLimit : Bool} {col_InvalidLimit : Option Bool} {dd_InvalidLimit : Option Addr} {e0_InvalidLimit e1_InvalidLimit e2_InvalidLimit e3_InvalidLimit e5_InvalidLimit : Option Value} {oc_InvalidLimit dc_InvalidLimit pm_InvalidLimit ct_InvalidLimit u1_InvalidLimit u4_InvalidLimit : Value} {od_InvalidLimit u2_InvalidLimit u5_InvalidLimit : Option Addr} {sl_InvalidLimit u3_InvalidLimit u6_InvalidLimit : Array (Option Value)} {vs_InvalidLimit : Array Value} {fi_InvalidLimit : Str} {tf_InvalidLimit : Tok}
    {T_InvalidSeen g_InvalidSeen cc_InvalidSeen cda_InvalidSeen NN_InvalidSeen : Addr} {nm_InvalidSeen qq_InvalidSeen : Str} {bs_InvalidSeen bm_InvalidSeen sub_InvalidSeen : List Value} {sn_InvalidSeen : List Str} {ab_InvalidSeen : Bool} {col_InvalidSeen : Option Bool} {dd_InvalidSeen : Option Addr} {e0_InvalidSeen e1_InvalidSeen e2_InvalidSeen e3_InvalidSeen e5_InvalidSeen : Option Value} {oc_InvalidSeen dc_InvalidSeen pm_InvalidSeen ct_InvalidSeen u1_InvalidSeen u4_InvalidSeen : Value} {od_InvalidSeen u2_InvalidSeen u5_InvalidSeen : Option Addr} {sl_InvalidSeen u3_InvalidSeen u6_InvalidSeen : Array (Option Value)} {vs_InvalidSeen : Array Value} {fi_InvalidSeen : Str} {tf_InvalidSeen : Tok}
    (yB : PySem.W.nsIn K mainGlobals "Bench" = some (some (.ref B)))
    (a0 : PySem.W.nsIn K mainGlobals "is_integer" = some (some (.ref f0)))
    (l0 : K.lookup f0 = some ⟨oc0, od0, .func (PySem.W.fnOf "is_integer" "is_integer" (defArgs S_is_integer) (defBody S_is_integer) (defScope S_is_integer) .none kV0 dc0 pm0 an0 cd0 ct0), sl0⟩)
    (c0 : PySem.W.codeIn K cd0 "is_integer" = true)
    (k0 : PySem.W.keepIn K (.ref f0) = true)
    (a1 : PySem.W.nsIn K mainGlobals "is_step" = some (some (.ref f1)))
    (l1 : K.lookup f1 = some ⟨oc1, od1, .func (PySem.W.fnOf "is_step" "is_step" (defArgs S_is_step) (defBody S_is_step) (defScope S_is_step) .none kV1 dc1 pm1 an1 cd1 ct1), sl1⟩)
    (c1 : PySem.W.codeIn K cd1 "is_step" = true)
    (k1 : PySem.W.keepIn K (.ref f1) = true)
    (a2 : PySem.W.nsIn K mainGlobals "product_of" = some (some (.ref f2)))
    (l2 : K.lookup f2 = some ⟨oc2, od2, .func (PySem.W.fnOf "product_of" "product_of" (defArgs S_product_of) (defBody S_product_of) (defScope S_product_of) .none kV2 dc2 pm2 an2 cd2 ct2), sl2⟩)
    (c2 : PySem.W.codeIn K cd2 "product_of" = true)
    (k2 : PySem.W.keepIn K (.ref f2) = true)
    (a3 : PySem.W.nsIn K mainGlobals "column_size" = some (some (.ref f3)))
    (l3 : K.lookup f3 = some ⟨oc3, od3, .func (PySem.W.fnOf "column_size" "column_size" (defArgs S_column_size) (defBody S_column_size) (defScope S_column_size) .none kV3 dc3 pm3 an3 cd3 ct3), sl3⟩)
    (c3 : PySem.W.codeIn K cd3 "column_size" = true)
    (k3 : PySem.W.keepIn K (.ref f3) = true)
    (a4 : PySem.W.nsIn K mainGlobals "place_by" = some (some (.ref f4)))
    (l4 : K.lookup f4 = some ⟨oc4, od4, .func (PySem.W.fnOf "place_by" "place_by" (defArgs S_place_by) (defBody S_place_by) (defScope S_place_by) .none kV4 dc4 pm4 an4 cd4 ct4), sl4⟩)
    (c4 : PySem.W.codeIn K cd4 "place_by" = true)
    (k4 : PySem.W.keepIn K (.ref f4) = true)
    (a5 : PySem.W.nsIn K mainGlobals "whence_by" = some (some (.ref f5)))
    (l5 : K.lookup f5 = some ⟨oc5, od5, .func (PySem.W.fnOf "whence_by" "whence_by" (defArgs S_whence_by) (defBody S_whence_by) (defScope S_whence_by) .none kV5 dc5 pm5 an5 cd5 ct5), sl5⟩)
    (c5 : PySem.W.codeIn K cd5 "whence_by" = true)
    (k5 : PySem.W.keepIn K (.ref f5) = true)
    (a6 : PySem.W.nsIn K mainGlobals "check_length" = some (some (.ref f6)))
    (l6 : K.lookup f6 = some ⟨oc6, od6, .func (PySem.W.fnOf "check_length" "check_length" (defArgs S_check_length) (defBody S_check_length) (defScope S_check_length) .none kV6 dc6 pm6 an6 cd6 ct6), sl6⟩)
    (c6 : PySem.W.codeIn K cd6 "check_length" = true)
    (k6 : PySem.W.keepIn K (.ref f6) = true)
    (a7 : PySem.W.nsIn K mainGlobals "check_sign" = some (some (.ref f7)))
    (l7 : K.lookup f7 = some ⟨oc7, od7, .func (PySem.W.fnOf "check_sign" "check_sign" (defArgs S_check_sign) (defBody S_check_sign) (defScope S_check_sign) .none kV7 dc7 pm7 an7 cd7 ct7), sl7⟩)
    (c7 : PySem.W.codeIn K cd7 "check_sign" = true)
    (k7 : PySem.W.keepIn K (.ref f7) = true)
    (a8 : PySem.W.nsIn K mainGlobals "place_in" = some (some (.ref f8)))
    (l8 : K.lookup f8 = some ⟨oc8, od8, .func (PySem.W.fnOf "place_in" "place_in" (defArgs S_place_in) (defBody S_place_in) (defScope S_place_in) .none kV8 dc8 pm8 an8 cd8 ct8), sl8⟩)
    (c8 : PySem.W.codeIn K cd8 "place_in" = true)
    (k8 : PySem.W.keepIn K (.ref f8) = true)
    (a9 : PySem.W.nsIn K mainGlobals "place" = some (some (.ref f9)))
    (l9 : K.lookup f9 = some ⟨oc9, od9, .func (PySem.W.fnOf "place" "place" (defArgs S_place) (defBody S_place) (defScope S_place) .none kV9 dc9 pm9 an9 cd9 ct9), sl9⟩)
    (c9 : PySem.W.codeIn K cd9 "place" = true)
    (k9 : PySem.W.keepIn K (.ref f9) = true)
    (a10 : PySem.W.nsIn K mainGlobals "whence" = some (some (.ref f10)))
    (l10 : K.lookup f10 = some ⟨oc10, od10, .func (PySem.W.fnOf "whence" "whence" (defArgs S_whence) (defBody S_whence) (defScope S_whence) .none kV10 dc10 pm10 an10 cd10 ct10), sl10⟩)
    (c10 : PySem.W.codeIn K cd10 "whence" = true)
    (k10 : PySem.W.keepIn K (.ref f10) = true)
    (a11 : PySem.W.nsIn K mainGlobals "read_items" = some (some (.ref f11)))
    (l11 : K.lookup f11 = some ⟨oc11, od11, .func (PySem.W.fnOf "read_items" "read_items" (defArgs S_read_items) (defBody S_read_items) (defScope S_read_items) .none kV11 dc11 pm11 an11 cd11 ct11), sl11⟩)
    (c11 : PySem.W.codeIn K cd11 "read_items" = true)
    (k11 : PySem.W.keepIn K (.ref f11) = true)
    (a12 : PySem.W.nsIn K mainGlobals "done_items" = some (some (.ref f12)))
    (l12 : K.lookup f12 = some ⟨oc12, od12, .func (PySem.W.fnOf "done_items" "done_items" (defArgs S_done_items) (defBody S_done_items) (defScope S_done_items) .none kV12 dc12 pm12 an12 cd12 ct12), sl12⟩)
    (c12 : PySem.W.codeIn K cd12 "done_items" = true)
    (k12 : PySem.W.keepIn K (.ref f12) = true)
    (a13 : PySem.W.nsIn K mainGlobals "like" = some (some (.ref f13)))
    (l13 : K.lookup f13 = some ⟨oc13, od13, .func (PySem.W.fnOf "like" "like" (defArgs S_like) (defBody S_like) (defScope S_like) .none kV13 dc13 pm13 an13 cd13 ct13), sl13⟩)
    (c13 : PySem.W.codeIn K cd13 "like" = true)
    (k13 : PySem.W.keepIn K (.ref f13) = true)
    (a14 : PySem.W.nsIn K mainGlobals "done" = some (some (.ref f14)))
    (l14 : K.lookup f14 = some ⟨oc14, od14, .func (PySem.W.fnOf "done" "done" (defArgs S_done) (defBody S_done) (defScope S_done) .none kV14 dc14 pm14 an14 cd14 ct14), sl14⟩)
    (c14 : PySem.W.codeIn K cd14 "done" = true)
    (k14 : PySem.W.keepIn K (.ref f14) = true)
    (a15 : PySem.W.nsIn K mainGlobals "back" = some (some (.ref f15)))
    (l15 : K.lookup f15 = some ⟨oc15, od15, .func (PySem.W.fnOf "back" "back" (defArgs S_back) (defBody S_back) (defScope S_back) .none kV15 dc15 pm15 an15 cd15 ct15), sl15⟩)
    (c15 : PySem.W.codeIn K cd15 "back" = true)
    (k15 : PySem.W.keepIn K (.ref f15) = true)
    (a16 : PySem.W.nsIn K mainGlobals "next_blocks" = some (some (.ref f16)))
    (l16 : K.lookup f16 = some ⟨oc16, od16, .func (PySem.W.fnOf "next_blocks" "next_blocks" (defArgs S_next_blocks) (defBody S_next_blocks) (defScope S_next_blocks) .none kV16 dc16 pm16 an16 cd16 ct16), sl16⟩)
    (c16 : PySem.W.codeIn K cd16 "next_blocks" = true)
    (k16 : PySem.W.keepIn K (.ref f16) = true)
    (a17 : PySem.W.nsIn K mainGlobals "order_for" = some (some (.ref f17)))
    (l17 : K.lookup f17 = some ⟨oc17, od17, .func (PySem.W.fnOf "order_for" "order_for" (defArgs S_order_for) (defBody S_order_for) (defScope S_order_for) .none kV17 dc17 pm17 an17 cd17 ct17), sl17⟩)
    (c17 : PySem.W.codeIn K cd17 "order_for" = true)
    (k17 : PySem.W.keepIn K (.ref f17) = true)
    (a18 : PySem.W.nsIn K mainGlobals "orders_of" = some (some (.ref f18)))
    (l18 : K.lookup f18 = some ⟨oc18, od18, .func (PySem.W.fnOf "orders_of" "orders_of" (defArgs S_orders_of) (defBody S_orders_of) (defScope S_orders_of) .none kV18 dc18 pm18 an18 cd18 ct18), sl18⟩)
    (c18 : PySem.W.codeIn K cd18 "orders_of" = true)
    (k18 : PySem.W.keepIn K (.ref f18) = true)
    (a19 : PySem.W.nsIn K mainGlobals "orders" = some (some (.ref f19)))
    (l19 : K.lookup f19 = some ⟨oc19, od19, .func (PySem.W.fnOf "orders" "orders" (defArgs S_orders) (defBody S_orders) (defScope S_orders) .none kV19 dc19 pm19 an19 cd19 ct19), sl19⟩)
    (c19 : PySem.W.codeIn K cd19 "orders" = true)
    (k19 : PySem.W.keepIn K (.ref f19) = true)
    (a20 : PySem.W.nsIn K mainGlobals "order_at" = some (some (.ref f20)))
    (l20 : K.lookup f20 = some ⟨oc20, od20, .func (PySem.W.fnOf "order_at" "order_at" (defArgs S_order_at) (defBody S_order_at) (defScope S_order_at) .none kV20 dc20 pm20 an20 cd20 ct20), sl20⟩)
    (c20 : PySem.W.codeIn K cd20 "order_at" = true)
    (k20 : PySem.W.keepIn K (.ref f20) = true)
    (a21 : PySem.W.nsIn K mainGlobals "is_steady" = some (some (.ref f21)))
    (l21 : K.lookup f21 = some ⟨oc21, od21, .func (PySem.W.fnOf "is_steady" "is_steady" (defArgs S_is_steady) (defBody S_is_steady) (defScope S_is_steady) .none kV21 dc21 pm21 an21 cd21 ct21), sl21⟩)
    (c21 : PySem.W.codeIn K cd21 "is_steady" = true)
    (k21 : PySem.W.keepIn K (.ref f21) = true)
    (a22 : PySem.W.nsIn K mainGlobals "read_by" = some (some (.ref f22)))
    (l22 : K.lookup f22 = some ⟨oc22, od22, .func (PySem.W.fnOf "read_by" "read_by" (defArgs S_read_by) (defBody S_read_by) (defScope S_read_by) .none kV22 dc22 pm22 an22 cd22 ct22), sl22⟩)
    (c22 : PySem.W.codeIn K cd22 "read_by" = true)
    (k22 : PySem.W.keepIn K (.ref f22) = true)
    (a23 : PySem.W.nsIn K mainGlobals "are_alike" = some (some (.ref f23)))
    (l23 : K.lookup f23 = some ⟨oc23, od23, .func (PySem.W.fnOf "are_alike" "are_alike" (defArgs S_are_alike) (defBody S_are_alike) (defScope S_are_alike) .none kV23 dc23 pm23 an23 cd23 ct23), sl23⟩)
    (c23 : PySem.W.codeIn K cd23 "are_alike" = true)
    (k23 : PySem.W.keepIn K (.ref f23) = true)
    (a24 : PySem.W.nsIn K mainGlobals "are_same" = some (some (.ref f24)))
    (l24 : K.lookup f24 = some ⟨oc24, od24, .func (PySem.W.fnOf "are_same" "are_same" (defArgs S_are_same) (defBody S_are_same) (defScope S_are_same) .none kV24 dc24 pm24 an24 cd24 ct24), sl24⟩)
    (c24 : PySem.W.codeIn K cd24 "are_same" = true)
    (k24 : PySem.W.keepIn K (.ref f24) = true)
    (a25 : PySem.W.nsIn K mainGlobals "places_in" = some (some (.ref f25)))
    (l25 : K.lookup f25 = some ⟨oc25, od25, .func (PySem.W.fnOf "places_in" "places_in" (defArgs S_places_in) (defBody S_places_in) (defScope S_places_in) .none kV25 dc25 pm25 an25 cd25 ct25), sl25⟩)
    (c25 : PySem.W.codeIn K cd25 "places_in" = true)
    (k25 : PySem.W.keepIn K (.ref f25) = true)
    (a26 : PySem.W.nsIn K mainGlobals "parting" = some (some (.ref f26)))
    (l26 : K.lookup f26 = some ⟨oc26, od26, .func (PySem.W.fnOf "parting" "parting" (defArgs S_parting) (defBody S_parting) (defScope S_parting) .none kV26 dc26 pm26 an26 cd26 ct26), sl26⟩)
    (c26 : PySem.W.codeIn K cd26 "parting" = true)
    (k26 : PySem.W.keepIn K (.ref f26) = true)
    (a27 : PySem.W.nsIn K mainGlobals "alike" = some (some (.ref f27)))
    (l27 : K.lookup f27 = some ⟨oc27, od27, .func (PySem.W.fnOf "alike" "alike" (defArgs S_alike) (defBody S_alike) (defScope S_alike) .none kV27 dc27 pm27 an27 cd27 ct27), sl27⟩)
    (c27 : PySem.W.codeIn K cd27 "alike" = true)
    (k27 : PySem.W.keepIn K (.ref f27) = true)
    (a28 : PySem.W.nsIn K mainGlobals "common" = some (some (.ref f28)))
    (l28 : K.lookup f28 = some ⟨oc28, od28, .func (PySem.W.fnOf "common" "common" (defArgs S_common) (defBody S_common) (defScope S_common) .none kV28 dc28 pm28 an28 cd28 ct28), sl28⟩)
    (c28 : PySem.W.codeIn K cd28 "common" = true)
    (k28 : PySem.W.keepIn K (.ref f28) = true)
    (a29 : PySem.W.nsIn K mainGlobals "agreeing" = some (some (.ref f29)))
    (l29 : K.lookup f29 = some ⟨oc29, od29, .func (PySem.W.fnOf "agreeing" "agreeing" (defArgs S_agreeing) (defBody S_agreeing) (defScope S_agreeing) .none kV29 dc29 pm29 an29 cd29 ct29), sl29⟩)
    (c29 : PySem.W.codeIn K cd29 "agreeing" = true)
    (k29 : PySem.W.keepIn K (.ref f29) = true)
    (a30 : PySem.W.nsIn K mainGlobals "text_now" = some (some (.ref f30)))
    (l30 : K.lookup f30 = some ⟨oc30, od30, .func (PySem.W.fnOf "text_now" "text_now" (defArgs S_text_now) (defBody S_text_now) (defScope S_text_now) .none kV30 dc30 pm30 an30 cd30 ct30), sl30⟩)
    (c30 : PySem.W.codeIn K cd30 "text_now" = true)
    (k30 : PySem.W.keepIn K (.ref f30) = true)
    (a31 : PySem.W.nsIn K mainGlobals "rows_of" = some (some (.ref f31)))
    (l31 : K.lookup f31 = some ⟨oc31, od31, .func (PySem.W.fnOf "rows_of" "rows_of" (defArgs S_rows_of) (defBody S_rows_of) (defScope S_rows_of) .none kV31 dc31 pm31 an31 cd31 ct31), sl31⟩)
    (c31 : PySem.W.codeIn K cd31 "rows_of" = true)
    (k31 : PySem.W.keepIn K (.ref f31) = true)
    (a32 : PySem.W.nsIn K mainGlobals "all_steps" = some (some (.ref f32)))
    (l32 : K.lookup f32 = some ⟨oc32, od32, .func (PySem.W.fnOf "all_steps" "all_steps" (defArgs S_all_steps) (defBody S_all_steps) (defScope S_all_steps) .none kV32 dc32 pm32 an32 cd32 ct32), sl32⟩)
    (c32 : PySem.W.codeIn K cd32 "all_steps" = true)
    (k32 : PySem.W.keepIn K (.ref f32) = true)
    (a33 : PySem.W.nsIn K mainGlobals "exchangeable" = some (some (.ref f33)))
    (l33 : K.lookup f33 = some ⟨oc33, od33, .func (PySem.W.fnOf "exchangeable" "exchangeable" (defArgs S_exchangeable) (defBody S_exchangeable) (defScope S_exchangeable) .none kV33 dc33 pm33 an33 cd33 ct33), sl33⟩)
    (c33 : PySem.W.codeIn K cd33 "exchangeable" = true)
    (k33 : PySem.W.keepIn K (.ref f33) = true)
    (a34 : PySem.W.nsIn K mainGlobals "candidates" = some (some (.ref f34)))
    (l34 : K.lookup f34 = some ⟨oc34, od34, .func (PySem.W.fnOf "candidates" "candidates" (defArgs S_candidates) (defBody S_candidates) (defScope S_candidates) .none kV34 dc34 pm34 an34 cd34 ct34), sl34⟩)
    (c34 : PySem.W.codeIn K cd34 "candidates" = true)
    (k34 : PySem.W.keepIn K (.ref f34) = true)
    (a35 : PySem.W.nsIn K mainGlobals "shortest" = some (some (.ref f35)))
    (l35 : K.lookup f35 = some ⟨oc35, od35, .func (PySem.W.fnOf "shortest" "shortest" (defArgs S_shortest) (defBody S_shortest) (defScope S_shortest) .none kV35 dc35 pm35 an35 cd35 ct35), sl35⟩)
    (c35 : PySem.W.codeIn K cd35 "shortest" = true)
    (k35 : PySem.W.keepIn K (.ref f35) = true)
    (a36 : PySem.W.nsIn K mainGlobals "is_seen" = some (some (.ref f36)))
    (l36 : K.lookup f36 = some ⟨oc36, od36, .func (PySem.W.fnOf "is_seen" "is_seen" (defArgs S_is_seen) (defBody S_is_seen) (defScope S_is_seen) .none kV36 dc36 pm36 an36 cd36 ct36), sl36⟩)
    (c36 : PySem.W.codeIn K cd36 "is_seen" = true)
    (k36 : PySem.W.keepIn K (.ref f36) = true)
    (a37 : PySem.W.nsIn K mainGlobals "behind_step" = some (some (.ref f37)))
    (l37 : K.lookup f37 = some ⟨oc37, od37, .func (PySem.W.fnOf "behind_step" "behind_step" (defArgs S_behind_step) (defBody S_behind_step) (defScope S_behind_step) .none kV37 dc37 pm37 an37 cd37 ct37), sl37⟩)
    (c37 : PySem.W.codeIn K cd37 "behind_step" = true)
    (k37 : PySem.W.keepIn K (.ref f37) = true)
    (a38 : PySem.W.nsIn K mainGlobals "fits" = some (some (.ref f38)))
    (l38 : K.lookup f38 = some ⟨oc38, od38, .func (PySem.W.fnOf "fits" "fits" (defArgs S_fits) (defBody S_fits) (defScope S_fits) .none kV38 dc38 pm38 an38 cd38 ct38), sl38⟩)
    (c38 : PySem.W.codeIn K cd38 "fits" = true)
    (k38 : PySem.W.keepIn K (.ref f38) = true)
    (a39 : PySem.W.nsIn K mainGlobals "fitting" = some (some (.ref f39)))
    (l39 : K.lookup f39 = some ⟨oc39, od39, .func (PySem.W.fnOf "fitting" "fitting" (defArgs S_fitting) (defBody S_fitting) (defScope S_fitting) .none kV39 dc39 pm39 an39 cd39 ct39), sl39⟩)
    (c39 : PySem.W.codeIn K cd39 "fitting" = true)
    (k39 : PySem.W.keepIn K (.ref f39) = true)
    (a40 : PySem.W.nsIn K mainGlobals "still_in" = some (some (.ref f40)))
    (l40 : K.lookup f40 = some ⟨oc40, od40, .func (PySem.W.fnOf "still_in" "still_in" (defArgs S_still_in) (defBody S_still_in) (defScope S_still_in) .none kV40 dc40 pm40 an40 cd40 ct40), sl40⟩)
    (c40 : PySem.W.codeIn K cd40 "still_in" = true)
    (k40 : PySem.W.keepIn K (.ref f40) = true)
    (a41 : PySem.W.nsIn K mainGlobals "still" = some (some (.ref f41)))
    (l41 : K.lookup f41 = some ⟨oc41, od41, .func (PySem.W.fnOf "still" "still" (defArgs S_still) (defBody S_still) (defScope S_still) .none kV41 dc41 pm41 an41 cd41 ct41), sl41⟩)
    (c41 : PySem.W.codeIn K cd41 "still" = true)
    (k41 : PySem.W.keepIn K (.ref f41) = true)
    (a42 : PySem.W.nsIn K mainGlobals "divisor" = some (some (.ref f42)))
    (l42 : K.lookup f42 = some ⟨oc42, od42, .func (PySem.W.fnOf "divisor" "divisor" (defArgs S_divisor) (defBody S_divisor) (defScope S_divisor) .none kV42 dc42 pm42 an42 cd42 ct42), sl42⟩)
    (c42 : PySem.W.codeIn K cd42 "divisor" = true)
    (k42 : PySem.W.keepIn K (.ref f42) = true)
    (a43 : PySem.W.nsIn K mainGlobals "rounds" = some (some (.ref f43)))
    (l43 : K.lookup f43 = some ⟨oc43, od43, .func (PySem.W.fnOf "rounds" "rounds" (defArgs S_rounds) (defBody S_rounds) (defScope S_rounds) .none kV43 dc43 pm43 an43 cd43 ct43), sl43⟩)
    (c43 : PySem.W.codeIn K cd43 "rounds" = true)
    (k43 : PySem.W.keepIn K (.ref f43) = true)
    (a44 : PySem.W.nsIn K mainGlobals "_law_mix" = some (some (.ref f44)))
    (l44 : K.lookup f44 = some ⟨oc44, od44, .func (PySem.W.fnOf "_law_mix" "_law_mix" (defArgs S__law_mix) (defBody S__law_mix) (defScope S__law_mix) .none kV44 dc44 pm44 an44 cd44 ct44), sl44⟩)
    (c44 : PySem.W.codeIn K cd44 "_law_mix" = true)
    (k44 : PySem.W.keepIn K (.ref f44) = true)
    (a45 : PySem.W.nsIn K mainGlobals "_law_next" = some (some (.ref f45)))
    (l45 : K.lookup f45 = some ⟨oc45, od45, .func (PySem.W.fnOf "_law_next" "_law_next" (defArgs S__law_next) (defBody S__law_next) (defScope S__law_next) .none kV45 dc45 pm45 an45 cd45 ct45), sl45⟩)
    (c45 : PySem.W.codeIn K cd45 "_law_next" = true)
    (k45 : PySem.W.keepIn K (.ref f45) = true)
    (a46 : PySem.W.nsIn K mainGlobals "_law_pick" = some (some (.ref f46)))
    (l46 : K.lookup f46 = some ⟨oc46, od46, .func (PySem.W.fnOf "_law_pick" "_law_pick" (defArgs S__law_pick) (defBody S__law_pick) (defScope S__law_pick) .none kV46 dc46 pm46 an46 cd46 ct46), sl46⟩)
    (c46 : PySem.W.codeIn K cd46 "_law_pick" = true)
    (k46 : PySem.W.keepIn K (.ref f46) = true)
    (a47 : PySem.W.nsIn K mainGlobals "_law_rows" = some (some (.ref f47)))
    (l47 : K.lookup f47 = some ⟨oc47, od47, .func (PySem.W.fnOf "_law_rows" "_law_rows" (defArgs S__law_rows) (defBody S__law_rows) (defScope S__law_rows) .none kV47 dc47 pm47 an47 cd47 ct47), sl47⟩)
    (c47 : PySem.W.codeIn K cd47 "_law_rows" = true)
    (k47 : PySem.W.keepIn K (.ref f47) = true)
    (a48 : PySem.W.nsIn K mainGlobals "_law_evens" = some (some (.ref f48)))
    (l48 : K.lookup f48 = some ⟨oc48, od48, .func (PySem.W.fnOf "_law_evens" "_law_evens" (defArgs S__law_evens) (defBody S__law_evens) (defScope S__law_evens) .none kV48 dc48 pm48 an48 cd48 ct48), sl48⟩)
    (c48 : PySem.W.codeIn K cd48 "_law_evens" = true)
    (k48 : PySem.W.keepIn K (.ref f48) = true)
    (a49 : PySem.W.nsIn K mainGlobals "_law_turned" = some (some (.ref f49)))
    (l49 : K.lookup f49 = some ⟨oc49, od49, .func (PySem.W.fnOf "_law_turned" "_law_turned" (defArgs S__law_turned) (defBody S__law_turned) (defScope S__law_turned) .none kV49 dc49 pm49 an49 cd49 ct49), sl49⟩)
    (c49 : PySem.W.codeIn K cd49 "_law_turned" = true)
    (k49 : PySem.W.keepIn K (.ref f49) = true)
    (a50 : PySem.W.nsIn K mainGlobals "law" = some (some (.ref f50)))
    (l50 : K.lookup f50 = some ⟨oc50, od50, .func (PySem.W.fnOf "law" "law" (defArgs S_law) (defBody S_law) (defScope S_law) .none kV50 dc50 pm50 an50 cd50 ct50), sl50⟩)
    (c50 : PySem.W.codeIn K cd50 "law" = true)
    (k50 : PySem.W.keepIn K (.ref f50) = true)
    (a51 : PySem.W.findIn K (.ref C) "__init__" = some (some (.ref f51)))
    (l51 : K.lookup f51 = some ⟨oc51, od51, .func (PySem.W.fnOf "__init__" "Script.__init__" (defArgs S_Script___init__) (defBody S_Script___init__) (defScope S_Script___init__) .none kV51 dc51 pm51 an51 cd51 ct51), sl51⟩)
    (c51 : PySem.W.codeIn K cd51 "Script.__init__" = true)
    (k51 : PySem.W.keepIn K (.ref f51) = true)
    (n51 : PySem.W.isFn K (.ref f51) = true)
    (a52 : PySem.W.findIn K (.ref C) "wide" = some (some (.ref p52)))
    (r52 : PySem.W.recIn K p52 "property" = some (.ref f52 :: rest52))
    (g52 : PySem.W.specialIn K (.ref p52) "__get__" = some (some (.builtin "property.__get__")))
    (t52 : PySem.W.takesIn K (.ref p52) = some true)
    (l52 : K.lookup f52 = some ⟨oc52, od52, .func (PySem.W.fnOf "wide" "Script.wide" (defArgs S_Script_wide) (defBody S_Script_wide) (defScope S_Script_wide) .none kV52 dc52 pm52 an52 cd52 ct52), sl52⟩)
    (c52 : PySem.W.codeIn K cd52 "Script.wide" = true)
    (k52 : PySem.W.keepIn K (.ref f52) = true)
    (a53 : PySem.W.findIn K (.ref C) "__add__" = some (some (.ref f53)))
    (l53 : K.lookup f53 = some ⟨oc53, od53, .func (PySem.W.fnOf "__add__" "Script.__add__" (defArgs S_Script___add__) (defBody S_Script___add__) (defScope S_Script___add__) .none kV53 dc53 pm53 an53 cd53 ct53), sl53⟩)
    (c53 : PySem.W.codeIn K cd53 "Script.__add__" = true)
    (k53 : PySem.W.keepIn K (.ref f53) = true)
    (n53 : PySem.W.isFn K (.ref f53) = true)
    (a54 : PySem.W.findIn K (.ref B) "__init__" = some (some (.ref f54)))
    (l54 : K.lookup f54 = some ⟨oc54, od54, .func (PySem.W.fnOf "__init__" "Bench.__init__" (defArgs S_Bench___init__) (defBody S_Bench___init__) (defScope S_Bench___init__) .none kV54 dc54 pm54 an54 cd54 ct54), sl54⟩)
    (c54 : PySem.W.codeIn K cd54 "Bench.__init__" = true)
    (k54 : PySem.W.keepIn K (.ref f54) = true)
    (n54 : PySem.W.isFn K (.ref f54) = true)
    (a55 : PySem.W.findIn K (.ref B) "left" = some (some (.ref p55)))
    (r55 : PySem.W.recIn K p55 "property" = some (.ref f55 :: rest55))
    (g55 : PySem.W.specialIn K (.ref p55) "__get__" = some (some (.builtin "property.__get__")))
    (t55 : PySem.W.takesIn K (.ref p55) = some true)
    (l55 : K.lookup f55 = some ⟨oc55, od55, .func (PySem.W.fnOf "left" "Bench.left" (defArgs S_Bench_left) (defBody S_Bench_left) (defScope S_Bench_left) .none kV55 dc55 pm55 an55 cd55 ct55), sl55⟩)
    (c55 : PySem.W.codeIn K cd55 "Bench.left" = true)
    (k55 : PySem.W.keepIn K (.ref f55) = true)
    (a56 : PySem.W.findIn K (.ref B) "go" = some (some (.ref f56)))
    (l56 : K.lookup f56 = some ⟨oc56, od56, .func (PySem.W.fnOf "go" "Bench.go" (defArgs S_Bench_go) (defBody S_Bench_go) (defScope S_Bench_go) .none kV56 dc56 pm56 an56 cd56 ct56), sl56⟩)
    (c56 : PySem.W.codeIn K cd56 "Bench.go" = true)
    (k56 : PySem.W.keepIn K (.ref f56) = true)
    (n56 : PySem.W.isFn K (.ref f56) = true)
    (a57 : PySem.W.findIn K (.ref B) "read" = some (some (.ref f57)))
    (l57 : K.lookup f57 = some ⟨oc57, od57, .func (PySem.W.fnOf "read" "Bench.read" (defArgs S_Bench_read) (defBody S_Bench_read) (defScope S_Bench_read) .none kV57 dc57 pm57 an57 cd57 ct57), sl57⟩)
    (c57 : PySem.W.codeIn K cd57 "Bench.read" = true)
    (k57 : PySem.W.keepIn K (.ref f57) = true)
    (n57 : PySem.W.isFn K (.ref f57) = true)
    (y1 : PySem.W.plainGet K C Str.empty = true)
    (y2 : PySem.W.hasDictIn K C = true)
    (y3 : PySem.W.plainOver K C = true)
    (y4 : PySem.W.findIn K (.ref C) "__setattr__" = some (some (.builtin "object.__setattr__")))
    (y5 : PySem.W.findIn K (.ref C) "readings" = some none)
    (y6 : PySem.W.findIn K (.ref C) "__class__" = some (some (.builtin "object.__class__")))
    (y7 : PySem.W.specialIn K (.builtin "object.__class__") "__get__" = some (some (.builtin "getset_descriptor.__get__")))
    (y8 : PySem.W.takesIn K (.builtin "object.__class__") = some true)
    (y9 : PySem.W.mroIn K C (.type "object") = some true)
    (u1 : PySem.W.makesIn K C = true)
    (u2 : PySem.W.keepIn K (.ref C) = true)
    (y1B : PySem.W.plainGet K B Str.empty = true)
    (y2B : PySem.W.hasDictIn K B = true)
    (y3B : PySem.W.plainOver K B = true)
    (y4B : PySem.W.findIn K (.ref B) "__setattr__" = some (some (.builtin "object.__setattr__")))
    (yB_given : PySem.W.findIn K (.ref B) "given" = some none)
    (yB_rows : PySem.W.findIn K (.ref B) "rows" = some none)
    (yB_steps_done : PySem.W.findIn K (.ref B) "steps_done" = some none)
    (yB_undone : PySem.W.findIn K (.ref B) "undone" = some none)
    (u1B : PySem.W.makesIn K B = true)
    (u2B : PySem.W.keepIn K (.ref B) = true)
    (xsf : PySem.W.selfFirst K C = true)
    (z_isinstance : PySem.W.nsIn K mainGlobals "isinstance" = some none)
    (z_int : PySem.W.nsIn K mainGlobals "int" = some none)
    (z_bool : PySem.W.nsIn K mainGlobals "bool" = some none)
    (z_tuple : PySem.W.nsIn K mainGlobals "tuple" = some none)
    (z_len : PySem.W.nsIn K mainGlobals "len" = some none)
    (z_all : PySem.W.nsIn K mainGlobals "all" = some none)
    (z_sorted : PySem.W.nsIn K mainGlobals "sorted" = some none)
    (z_abs : PySem.W.nsIn K mainGlobals "abs" = some none)
    (z_list : PySem.W.nsIn K mainGlobals "list" = some none)
    (z_range : PySem.W.nsIn K mainGlobals "range" = some none)
    (z_enumerate : PySem.W.nsIn K mainGlobals "enumerate" = some none)
    (z_str : PySem.W.nsIn K mainGlobals "str" = some none)
    (z_max : PySem.W.nsIn K mainGlobals "max" = some none)
    (z_dict : PySem.W.nsIn K mainGlobals "dict" = some none)
    (z_super : PySem.W.nsIn K mainGlobals "super" = some none)
    (z_zip : PySem.W.nsIn K mainGlobals "zip" = some none)
    (z_set : PySem.W.nsIn K mainGlobals "set" = some none)
    (i_MOST_WIDE : PySem.W.nsIn K mainGlobals "MOST_WIDE" = some (some (.int 3 tk_MOST_WIDE)))
    (i_MOST_STEPS : PySem.W.nsIn K mainGlobals "MOST_STEPS" = some (some (.int 3 tk_MOST_STEPS)))
    (i_MOST_FITTING : PySem.W.nsIn K mainGlobals "MOST_FITTING" = some (some (.int 2 tk_MOST_FITTING)))
    (i_MOST_LENGTH : PySem.W.nsIn K mainGlobals "MOST_LENGTH" = some (some (.int 1000000000000000000000000000000 tk_MOST_LENGTH)))
    (t_SAME : PySem.W.nsIn K mainGlobals "SAME" = some (some (.ref q_SAME)))
    (tl_SAME : K.lookup q_SAME = some ⟨.type "tuple", qd_SAME, .seq qi_SAME qn_SAME, qs_SAME⟩)
    (tv_SAME : intVals qi_SAME.toList = some [1])
    (tw_SAME : qi_SAME.size ≤ 1000)
    (t_FIRST : PySem.W.nsIn K mainGlobals "FIRST" = some (some (.ref q_FIRST)))
    (tl_FIRST : K.lookup q_FIRST = some ⟨.type "tuple", qd_FIRST, .seq qi_FIRST qn_FIRST, qs_FIRST⟩)
    (tv_FIRST : qi_FIRST.toList = [.ref r_FIRST])
    (rl_FIRST : K.lookup r_FIRST = some ⟨.type "tuple", rd_FIRST, .seq ri_FIRST rn_FIRST, rs_FIRST⟩)
    (tv2_FIRST : intVals ri_FIRST.toList = some [0, 1])
    (tw_FIRST : qi_FIRST.size ≤ 1000)
    (tw2_FIRST : ri_FIRST.size ≤ 1000)
    (xq : PySem.W.nsIn K PySem.cStatics "thirdparty.any" = some none)
    (xp : (l.prog.main.scope.names.lookup ("super" : Str)).isSome = false)
    (xw : PySem.W.specialIn K (.builtin "object.__class__") "__get__" = some (some (.builtin "getset_descriptor.__get__")))
    (xu : PySem.W.takesIn K (.builtin "object.__class__") = some true)
    (xB : PySem.W.nsIn K mainGlobals "ReadError" = some (some (.ref RE_)))
    (xBt : PySem.W.typeIn K (.ref RE_) = some (.type "type"))
    (xBc : PySem.W.hasDictIn K RE_ = true)
    (xg_TooLong : PySem.W.nsIn K mainGlobals "TooLong" = some (some (.ref T_TooLong)))
    (xin_TooLong : PySem.W.findIn K (.ref T_TooLong) "__init__" = some (some (.ref g_TooLong)))
    (xl_TooLong : K.lookup g_TooLong = some ⟨oc_TooLong, od_TooLong, .func (NdefX.NF.fd (NdefX.NF.mk "__init__" "TooLong.__init__" (defArgs S_TooLong___init__) (defBody S_TooLong___init__) (defScope S_TooLong___init__) [(("__class__" : Str), cc_TooLong)] cda_TooLong) dc_TooLong pm_TooLong ct_TooLong), sl_TooLong⟩)
    (xti_TooLong : PySem.W.typeIn K (.ref g_TooLong) = some (.type "function"))
    (xcd_TooLong : PySem.W.codeIn K (.ref cda_TooLong) "TooLong.__init__" = true)
    (xc_TooLong : K.lookup cda_TooLong = some ⟨u1_TooLong, u2_TooLong, .fields vs_TooLong, u3_TooLong⟩)
    (xv_TooLong : vs_TooLong[2]? = some (.str fi_TooLong tf_TooLong))
    (xf_TooLong : (l.prog.main.file == fi_TooLong) = true)
    (xe_TooLong : K.lookup cc_TooLong = some ⟨u4_TooLong, u5_TooLong, .cell (some (.ref T_TooLong)), u6_TooLong⟩)
    (xo_TooLong : K.lookup T_TooLong = some (excClassObj nm_TooLong qq_TooLong T_TooLong NN_TooLong bs_TooLong bm_TooLong true sn_TooLong sub_TooLong ab_TooLong col_TooLong dd_TooLong e0_TooLong e1_TooLong e2_TooLong e3_TooLong e5_TooLong "ValueError.__new__"))
    (xr_TooLong : PySem.HandSPX.refsVE bm_TooLong = true)
    (xs_TooLong : PySem.W.findIn K (.ref T_TooLong) "__setattr__" = some (some (.builtin "object.__setattr__")))
    (xb_TooLong : PySem.W.subIn K (.ref T_TooLong) (.type "BaseException") = some true)
    (xt_TooLong : PySem.W.typeIn K (.ref T_TooLong) = some (.type "type"))
    (xk_TooLong : PySem.W.keepIn K (.ref T_TooLong) = true)
    (xm_TooLong : PySem.W.mroIn K T_TooLong (.ref T_TooLong) = some true)
    (xi_TooLong : PySem.W.ks_superIn K T_TooLong T_TooLong "__init__" = some (some (.builtin "ValueError.__init__")))
    (xV_TooLong : PySem.W.subIn K (.ref T_TooLong) (.type "ValueError") = some true)
    (xa_TooLong : PySem.W.findIn K (.ref T_TooLong) "__getattribute__" = some (some (.builtin "BaseException.__getattribute__")))
    (xn_TooLong : PySem.W.findIn K (.ref T_TooLong) "__getattr__" = some none)
    (xd_TooLong : PySem.W.hasDictIn K T_TooLong = true)
    (xcl_TooLong : PySem.W.findIn K (.ref T_TooLong) "__class__" = some (some (.builtin "object.__class__")))
    (xob_TooLong : PySem.W.mroIn K T_TooLong (.type "object") = some true)
    (xS_TooLong : PySem.W.subIn K (.ref T_TooLong) (.ref T_TooLong) = some true)
    (xR_TooLong : PySem.W.subIn K (.ref T_TooLong) (.ref RE_) = some true)
    (xg_InvalidLength : PySem.W.nsIn K mainGlobals "InvalidLength" = some (some (.ref T_InvalidLength)))
    (xin_InvalidLength : PySem.W.findIn K (.ref T_InvalidLength) "__init__" = some (some (.ref g_InvalidLength)))
    (xl_InvalidLength : K.lookup g_InvalidLength = some ⟨oc_InvalidLength, od_InvalidLength, .func (NdefX.NF.fd (NdefX.NF.mk "__init__" "InvalidLength.__init__" (defArgs S_InvalidLength___init__) (defBody S_InvalidLength___init__) (defScope S_InvalidLength___init__) [(("__class__" : Str), cc_InvalidLength)] cda_InvalidLength) dc_InvalidLength pm_InvalidLength ct_InvalidLength), sl_InvalidLength⟩)
    (xti_InvalidLength : PySem.W.typeIn K (.ref g_InvalidLength) = some (.type "function"))
    (xcd_InvalidLength : PySem.W.codeIn K (.ref cda_InvalidLength) "InvalidLength.__init__" = true)
    (xc_InvalidLength : K.lookup cda_InvalidLength = some ⟨u1_InvalidLength, u2_InvalidLength, .fields vs_InvalidLength, u3_InvalidLength⟩)
    (xv_InvalidLength : vs_InvalidLength[2]? = some (.str fi_InvalidLength tf_InvalidLength))
    (xf_InvalidLength : (l.prog.main.file == fi_InvalidLength) = true)
    (xe_InvalidLength : K.lookup cc_InvalidLength = some ⟨u4_InvalidLength, u5_InvalidLength, .cell (some (.ref T_InvalidLength)), u6_InvalidLength⟩)
    (xo_InvalidLength : K.lookup T_InvalidLength = some (excClassObj nm_InvalidLength qq_InvalidLength T_InvalidLength NN_InvalidLength bs_InvalidLength bm_InvalidLength true sn_InvalidLength sub_InvalidLength ab_InvalidLength col_InvalidLength dd_InvalidLength e0_InvalidLength e1_InvalidLength e2_InvalidLength e3_InvalidLength e5_InvalidLength "ValueError.__new__"))
    (xr_InvalidLength : PySem.HandSPX.refsVE bm_InvalidLength = true)
    (xs_InvalidLength : PySem.W.findIn K (.ref T_InvalidLength) "__setattr__" = some (some (.builtin "object.__setattr__")))
    (xb_InvalidLength : PySem.W.subIn K (.ref T_InvalidLength) (.type "BaseException") = some true)
    (xt_InvalidLength : PySem.W.typeIn K (.ref T_InvalidLength) = some (.type "type"))
    (xk_InvalidLength : PySem.W.keepIn K (.ref T_InvalidLength) = true)
    (xm_InvalidLength : PySem.W.mroIn K T_InvalidLength (.ref T_InvalidLength) = some true)
    (xi_InvalidLength : PySem.W.ks_superIn K T_InvalidLength T_InvalidLength "__init__" = some (some (.builtin "ValueError.__init__")))
    (xV_InvalidLength : PySem.W.subIn K (.ref T_InvalidLength) (.type "ValueError") = some true)
    (xa_InvalidLength : PySem.W.findIn K (.ref T_InvalidLength) "__getattribute__" = some (some (.builtin "BaseException.__getattribute__")))
    (xn_InvalidLength : PySem.W.findIn K (.ref T_InvalidLength) "__getattr__" = some none)
    (xd_InvalidLength : PySem.W.hasDictIn K T_InvalidLength = true)
    (xcl_InvalidLength : PySem.W.findIn K (.ref T_InvalidLength) "__class__" = some (some (.builtin "object.__class__")))
    (xob_InvalidLength : PySem.W.mroIn K T_InvalidLength (.type "object") = some true)
    (xS_InvalidLength : PySem.W.subIn K (.ref T_InvalidLength) (.ref T_InvalidLength) = some true)
    (xR_InvalidLength : PySem.W.subIn K (.ref T_InvalidLength) (.ref RE_) = some true)
    (xg_AllStill : PySem.W.nsIn K mainGlobals "AllStill" = some (some (.ref T_AllStill)))
    (xin_AllStill : PySem.W.findIn K (.ref T_AllStill) "__init__" = some (some (.ref g_AllStill)))
    (xl_AllStill : K.lookup g_AllStill = some ⟨oc_AllStill, od_AllStill, .func (NdefX.NF.fd (NdefX.NF.mk "__init__" "AllStill.__init__" (defArgs S_AllStill___init__) (defBody S_AllStill___init__) (defScope S_AllStill___init__) [(("__class__" : Str), cc_AllStill)] cda_AllStill) dc_AllStill pm_AllStill ct_AllStill), sl_AllStill⟩)
    (xti_AllStill : PySem.W.typeIn K (.ref g_AllStill) = some (.type "function"))
    (xcd_AllStill : PySem.W.codeIn K (.ref cda_AllStill) "AllStill.__init__" = true)
    (xc_AllStill : K.lookup cda_AllStill = some ⟨u1_AllStill, u2_AllStill, .fields vs_AllStill, u3_AllStill⟩)
    (xv_AllStill : vs_AllStill[2]? = some (.str fi_AllStill tf_AllStill))
    (xf_AllStill : (l.prog.main.file == fi_AllStill) = true)
    (xe_AllStill : K.lookup cc_AllStill = some ⟨u4_AllStill, u5_AllStill, .cell (some (.ref T_AllStill)), u6_AllStill⟩)
    (xo_AllStill : K.lookup T_AllStill = some (excClassObj nm_AllStill qq_AllStill T_AllStill NN_AllStill bs_AllStill bm_AllStill true sn_AllStill sub_AllStill ab_AllStill col_AllStill dd_AllStill e0_AllStill e1_AllStill e2_AllStill e3_AllStill e5_AllStill "ValueError.__new__"))
    (xr_AllStill : PySem.HandSPX.refsVE bm_AllStill = true)
    (xs_AllStill : PySem.W.findIn K (.ref T_AllStill) "__setattr__" = some (some (.builtin "object.__setattr__")))
    (xb_AllStill : PySem.W.subIn K (.ref T_AllStill) (.type "BaseException") = some true)
    (xt_AllStill : PySem.W.typeIn K (.ref T_AllStill) = some (.type "type"))
    (xk_AllStill : PySem.W.keepIn K (.ref T_AllStill) = true)
    (xm_AllStill : PySem.W.mroIn K T_AllStill (.ref T_AllStill) = some true)
    (xi_AllStill : PySem.W.ks_superIn K T_AllStill T_AllStill "__init__" = some (some (.builtin "ValueError.__init__")))
    (xV_AllStill : PySem.W.subIn K (.ref T_AllStill) (.type "ValueError") = some true)
    (xa_AllStill : PySem.W.findIn K (.ref T_AllStill) "__getattribute__" = some (some (.builtin "BaseException.__getattribute__")))
    (xn_AllStill : PySem.W.findIn K (.ref T_AllStill) "__getattr__" = some none)
    (xd_AllStill : PySem.W.hasDictIn K T_AllStill = true)
    (xcl_AllStill : PySem.W.findIn K (.ref T_AllStill) "__class__" = some (some (.builtin "object.__class__")))
    (xob_AllStill : PySem.W.mroIn K T_AllStill (.type "object") = some true)
    (xS_AllStill : PySem.W.subIn K (.ref T_AllStill) (.ref T_AllStill) = some true)
    (xR_AllStill : PySem.W.subIn K (.ref T_AllStill) (.ref RE_) = some true)
    (xg_InvalidLimit : PySem.W.nsIn K mainGlobals "InvalidLimit" = some (some (.ref T_InvalidLimit)))
    (xin_InvalidLimit : PySem.W.findIn K (.ref T_InvalidLimit) "__init__" = some (some (.ref g_InvalidLimit)))
    (xl_InvalidLimit : K.lookup g_InvalidLimit = some ⟨oc_InvalidLimit, od_InvalidLimit, .func (NdefX.NF.fd (NdefX.NF.mk "__init__" "InvalidLimit.__init__" (defArgs S_InvalidLimit___init__) (defBody S_InvalidLimit___init__) (defScope S_InvalidLimit___init__) [(("__class__" : Str), cc_InvalidLimit)] cda_InvalidLimit) dc_InvalidLimit pm_InvalidLimit ct_InvalidLimit), sl_InvalidLimit⟩)
    (xti_InvalidLimit : PySem.W.typeIn K (.ref g_InvalidLimit) = some (.type "function"))
    (xcd_InvalidLimit : PySem.W.codeIn K (.ref cda_InvalidLimit) "InvalidLimit.__init__" = true)
    (xc_InvalidLimit : K.lookup cda_InvalidLimit = some ⟨u1_InvalidLimit, u2_InvalidLimit, .fields vs_InvalidLimit, u3_InvalidLimit⟩)
    (xv_InvalidLimit : vs_InvalidLimit[2]? = some (.str fi_InvalidLimit tf_InvalidLimit))
    (xf_InvalidLimit : (l.prog.main.file == fi_InvalidLimit) = true)
    (xe_InvalidLimit : K.lookup cc_InvalidLimit = some ⟨u4_InvalidLimit, u5_InvalidLimit, .cell (some (.ref T_InvalidLimit)), u6_InvalidLimit⟩)
    (xo_InvalidLimit : K.lookup T_InvalidLimit = some (excClassObj nm_InvalidLimit qq_InvalidLimit T_InvalidLimit NN_InvalidLimit bs_InvalidLimit bm_InvalidLimit true sn_InvalidLimit sub_InvalidLimit ab_InvalidLimit col_InvalidLimit dd_InvalidLimit e0_InvalidLimit e1_InvalidLimit e2_InvalidLimit e3_InvalidLimit e5_InvalidLimit "ValueError.__new__"))
    (xr_InvalidLimit : PySem.HandSPX.refsVE bm_InvalidLimit = true)
    (xs_InvalidLimit : PySem.W.findIn K (.ref T_InvalidLimit) "__setattr__" = some (some (.builtin "object.__setattr__")))
    (xb_InvalidLimit : PySem.W.subIn K (.ref T_InvalidLimit) (.type "BaseException") = some true)
    (xt_InvalidLimit : PySem.W.typeIn K (.ref T_InvalidLimit) = some (.type "type"))
    (xk_InvalidLimit : PySem.W.keepIn K (.ref T_InvalidLimit) = true)
    (xm_InvalidLimit : PySem.W.mroIn K T_InvalidLimit (.ref T_InvalidLimit) = some true)
    (xi_InvalidLimit : PySem.W.ks_superIn K T_InvalidLimit T_InvalidLimit "__init__" = some (some (.builtin "ValueError.__init__")))
    (xV_InvalidLimit : PySem.W.subIn K (.ref T_InvalidLimit) (.type "ValueError") = some true)
    (xa_InvalidLimit : PySem.W.findIn K (.ref T_InvalidLimit) "__getattribute__" = some (some (.builtin "BaseException.__getattribute__")))
    (xn_InvalidLimit : PySem.W.findIn K (.ref T_InvalidLimit) "__getattr__" = some none)
    (xd_InvalidLimit : PySem.W.hasDictIn K T_InvalidLimit = true)
    (xcl_InvalidLimit : PySem.W.findIn K (.ref T_InvalidLimit) "__class__" = some (some (.builtin "object.__class__")))
    (xob_InvalidLimit : PySem.W.mroIn K T_InvalidLimit (.type "object") = some true)
    (xS_InvalidLimit : PySem.W.subIn K (.ref T_InvalidLimit) (.ref T_InvalidLimit) = some true)
    (xR_InvalidLimit : PySem.W.subIn K (.ref T_InvalidLimit) (.ref RE_) = some true)
    (xg_InvalidSeen : PySem.W.nsIn K mainGlobals "InvalidSeen" = some (some (.ref T_InvalidSeen)))
    (xin_InvalidSeen : PySem.W.findIn K (.ref T_InvalidSeen) "__init__" = some (some (.ref g_InvalidSeen)))
    (xl_InvalidSeen : K.lookup g_InvalidSeen = some ⟨oc_InvalidSeen, od_InvalidSeen, .func (NdefX.NF.fd (NdefX.NF.mk "__init__" "InvalidSeen.__init__" (defArgs S_InvalidSeen___init__) (defBody S_InvalidSeen___init__) (defScope S_InvalidSeen___init__) [(("__class__" : Str), cc_InvalidSeen)] cda_InvalidSeen) dc_InvalidSeen pm_InvalidSeen ct_InvalidSeen), sl_InvalidSeen⟩)
    (xti_InvalidSeen : PySem.W.typeIn K (.ref g_InvalidSeen) = some (.type "function"))
    (xcd_InvalidSeen : PySem.W.codeIn K (.ref cda_InvalidSeen) "InvalidSeen.__init__" = true)
    (xc_InvalidSeen : K.lookup cda_InvalidSeen = some ⟨u1_InvalidSeen, u2_InvalidSeen, .fields vs_InvalidSeen, u3_InvalidSeen⟩)
    (xv_InvalidSeen : vs_InvalidSeen[2]? = some (.str fi_InvalidSeen tf_InvalidSeen))
    (xf_InvalidSeen : (l.prog.main.file == fi_InvalidSeen) = true)
    (xe_InvalidSeen : K.lookup cc_InvalidSeen = some ⟨u4_InvalidSeen, u5_InvalidSeen, .cell (some (.ref T_InvalidSeen)), u6_InvalidSeen⟩)
    (xo_InvalidSeen : K.lookup T_InvalidSeen = some (excClassObj nm_InvalidSeen qq_InvalidSeen T_InvalidSeen NN_InvalidSeen bs_InvalidSeen bm_InvalidSeen true sn_InvalidSeen sub_InvalidSeen ab_InvalidSeen col_InvalidSeen dd_InvalidSeen e0_InvalidSeen e1_InvalidSeen e2_InvalidSeen e3_InvalidSeen e5_InvalidSeen "ValueError.__new__"))
    (xr_InvalidSeen : PySem.HandSPX.refsVE bm_InvalidSeen = true)
    (xs_InvalidSeen : PySem.W.findIn K (.ref T_InvalidSeen) "__setattr__" = some (some (.builtin "object.__setattr__")))
    (xb_InvalidSeen : PySem.W.subIn K (.ref T_InvalidSeen) (.type "BaseException") = some true)
    (xt_InvalidSeen : PySem.W.typeIn K (.ref T_InvalidSeen) = some (.type "type"))
    (xk_InvalidSeen : PySem.W.keepIn K (.ref T_InvalidSeen) = true)
    (xm_InvalidSeen : PySem.W.mroIn K T_InvalidSeen (.ref T_InvalidSeen) = some true)
    (xi_InvalidSeen : PySem.W.ks_superIn K T_InvalidSeen T_InvalidSeen "__init__" = some (some (.builtin "ValueError.__init__")))
    (xV_InvalidSeen : PySem.W.subIn K (.ref T_InvalidSeen) (.type "ValueError") = some true)
    (xa_InvalidSeen : PySem.W.findIn K (.ref T_InvalidSeen) "__getattribute__" = some (some (.builtin "BaseException.__getattribute__")))
    (xn_InvalidSeen : PySem.W.findIn K (.ref T_InvalidSeen) "__getattr__" = some none)
    (xd_InvalidSeen : PySem.W.hasDictIn K T_InvalidSeen = true)
    (xcl_InvalidSeen : PySem.W.findIn K (.ref T_InvalidSeen) "__class__" = some (some (.builtin "object.__class__")))
    (xob_InvalidSeen : PySem.W.mroIn K T_InvalidSeen (.type "object") = some true)
    (xS_InvalidSeen : PySem.W.subIn K (.ref T_InvalidSeen) (.ref T_InvalidSeen) = some true)
    (xR_InvalidSeen : PySem.W.subIn K (.ref T_InvalidSeen) (.ref RE_) = some true)
    (xF_InvalidSeen : PySem.W.findIn K (.ref T_InvalidSeen) "index" = some none) :
    ∃ fd : FuncData, (∀ (s : Shared) (v : Value), BindsTo s fd ⟨[v], []⟩ [("_law_script", v)]) ∧ ∀ base : Heap, K.In base → base.Ns mainGlobals mg → FnOk l.prog w K mg base CX0 9 fa fd ["_law_script"] (spLaw K) := by
  have e := hfa.symm.trans (PySem.W.mg_of X G a50)
  cases e
  have F0 := fun_mk (st := S_is_integer) l0 c0 k0
  have b0 := F0.binds (ps := ["thing", "low", "high"]) fun _ _ _ _ _ _ us hl => match us, hl with | [_, _, _], _ => rfl
  have F1 := fun_mk (st := S_is_step) l1 c1 k1
  have b1 := F1.binds (ps := ["thing"]) fun _ _ _ _ _ _ us hl => match us, hl with | [_], _ => rfl
  have F2 := fun_mk (st := S_product_of) l2 c2 k2
  have b2 := F2.binds (ps := ["steps"]) fun _ _ _ _ _ _ us hl => match us, hl with | [_], _ => rfl
  have F3 := fun_mk (st := S_column_size) l3 c3 k3
  have b3 := F3.binds (ps := ["wide", "length", "column"]) fun _ _ _ _ _ _ us hl => match us, hl with | [_, _, _], _ => rfl
  have F4 := fun_mk (st := S_place_by) l4 c4 k4
  have b4 := F4.binds (ps := ["step", "length", "sign"]) fun _ _ _ _ _ _ us hl => match us, hl with | [_, _, _], _ => rfl
  have F5 := fun_mk (st := S_whence_by) l5 c5 k5
  have b5 := F5.binds (ps := ["step", "length", "place"]) fun _ _ _ _ _ _ us hl => match us, hl with | [_, _, _], _ => rfl
  have F6 := fun_mk (st := S_check_length) l6 c6 k6
  have b6 := F6.binds (ps := ["length"]) fun _ _ _ _ _ _ us hl => match us, hl with | [_], _ => rfl
  have F7 := fun_mk (st := S_check_sign) l7 c7 k7
  have b7 := F7.binds (ps := ["length", "sign"]) fun _ _ _ _ _ _ us hl => match us, hl with | [_, _], _ => rfl
  have F8 := fun_mk (st := S_place_in) l8 c8 k8
  have b8 := F8.binds (ps := ["steps", "length", "sign"]) fun _ _ _ _ _ _ us hl => match us, hl with | [_, _, _], _ => rfl
  have F9 := fun_mk (st := S_place) l9 c9 k9
  have b9 := F9.binds (ps := ["script", "length", "sign"]) fun _ _ _ _ _ _ us hl => match us, hl with | [_, _, _], _ => rfl
  have F10 := fun_mk (st := S_whence) l10 c10 k10
  have b10 := F10.binds (ps := ["script", "length", "place"]) fun _ _ _ _ _ _ us hl => match us, hl with | [_, _, _], _ => rfl
  have F11 := fun_mk (st := S_read_items) l11 c11 k11
  have b11 := F11.binds (ps := ["order", "items"]) fun _ _ _ _ _ _ us hl => match us, hl with | [_, _], _ => rfl
  have F12 := fun_mk (st := S_done_items) l12 c12 k12
  have b12 := F12.binds (ps := ["steps", "items"]) fun _ _ _ _ _ _ us hl => match us, hl with | [_, _], _ => rfl
  have F13 := fun_mk (st := S_like) l13 c13 k13
  have b13 := F13.binds (ps := ["text", "items"]) fun _ _ _ _ _ _ us hl => match us, hl with | [_, _], _ => rfl
  have F14 := fun_mk (st := S_done) l14 c14 k14
  have b14 := F14.binds (ps := ["script", "text"]) fun _ _ _ _ _ _ us hl => match us, hl with | [_, _], _ => rfl
  have F15 := fun_mk (st := S_back) l15 c15 k15
  have b15 := F15.binds (ps := ["script", "text"]) fun _ _ _ _ _ _ us hl => match us, hl with | [_, _], _ => rfl
  have F16 := fun_mk (st := S_next_blocks) l16 c16 k16
  have b16 := F16.binds (ps := ["blocks", "wide", "step", "length"]) fun _ _ _ _ _ _ us hl => match us, hl with | [_, _, _, _], _ => rfl
  have F17 := fun_mk (st := S_order_for) l17 c17 k17
  have b17 := F17.binds (ps := ["steps", "length"]) fun _ _ _ _ _ _ us hl => match us, hl with | [_, _], _ => rfl
  have F18 := fun_mk (st := S_orders_of) l18 c18 k18
  have b18 := F18.binds (ps := ["script"]) fun _ _ _ _ _ _ us hl => match us, hl with | [_], _ => rfl
  have F19 := fun_mk (st := S_orders) l19 c19 k19
  have b19 := F19.binds (ps := ["script"]) fun _ _ _ _ _ _ us hl => match us, hl with | [_], _ => rfl
  have F20 := fun_mk (st := S_order_at) l20 c20 k20
  have b20 := F20.binds (ps := ["script", "length"]) fun _ _ _ _ _ _ us hl => match us, hl with | [_, _], _ => rfl
  have F21 := fun_mk (st := S_is_steady) l21 c21 k21
  have b21 := F21.binds (ps := ["script"]) fun _ _ _ _ _ _ us hl => match us, hl with | [_], _ => rfl
  have F22 := fun_mk (st := S_read_by) l22 c22 k22
  have b22 := F22.binds (ps := ["order", "text"]) fun _ _ _ _ _ _ us hl => match us, hl with | [_, _], _ => rfl
  have F23 := fun_mk (st := S_are_alike) l23 c23 k23
  have b23 := F23.binds (ps := ["one", "other"]) fun _ _ _ _ _ _ us hl => match us, hl with | [_, _], _ => rfl
  have F24 := fun_mk (st := S_are_same) l24 c24 k24
  have b24 := F24.binds (ps := ["one", "other", "length"]) fun _ _ _ _ _ _ us hl => match us, hl with | [_, _, _], _ => rfl
  have F25 := fun_mk (st := S_places_in) l25 c25 k25
  have b25 := F25.binds (ps := ["script", "length"]) fun _ _ _ _ _ _ us hl => match us, hl with | [_, _], _ => rfl
  have F26 := fun_mk (st := S_parting) l26 c26 k26
  have b26 := F26.binds (ps := ["one", "other"]) fun _ _ _ _ _ _ us hl => match us, hl with | [_, _], _ => rfl
  have F27 := fun_mk (st := S_alike) l27 c27 k27
  have b27 := F27.binds (ps := ["one", "other"]) fun _ _ _ _ _ _ us hl => match us, hl with | [_, _], _ => rfl
  have F28 := fun_mk (st := S_common) l28 c28 k28
  have b28 := F28.binds (ps := ["one", "other"]) fun _ _ _ _ _ _ us hl => match us, hl with | [_, _], _ => rfl
  have F29 := fun_mk (st := S_agreeing) l29 c29 k29
  have b29 := F29.binds (ps := ["one", "other"]) fun _ _ _ _ _ _ us hl => match us, hl with | [_, _], _ => rfl
  have F30 := fun_mk (st := S_text_now) l30 c30 k30
  have b30 := F30.binds (ps := ["bench"]) fun _ _ _ _ _ _ us hl => match us, hl with | [_], _ => rfl
  have F31 := fun_mk (st := S_rows_of) l31 c31 k31
  have b31 := F31.binds (ps := ["numbers"]) fun _ _ _ _ _ _ us hl => match us, hl with | [_], _ => rfl
  have F32 := fun_mk (st := S_all_steps) l32 c32 k32
  have b32 := F32.binds (ps := ["wide"]) fun _ _ _ _ _ _ us hl => match us, hl with | [_], _ => rfl
  have F33 := fun_mk (st := S_exchangeable) l33 c33 k33
  have b33 := F33.binds (ps := ["script"]) fun _ _ _ _ _ _ us hl => match us, hl with | [_], _ => rfl
  have F34 := fun_mk (st := S_candidates) l34 c34 k34
  have b34 := F34.binds (ps := ["wide", "many"]) fun _ _ _ _ _ _ us hl => match us, hl with | [_, _], _ => rfl
  have F35 := fun_mk (st := S_shortest) l35 c35 k35
  have b35 := F35.binds (ps := ["script"]) fun _ _ _ _ _ _ us hl => match us, hl with | [_], _ => rfl
  have F36 := fun_mk (st := S_is_seen) l36 c36 k36
  have b36 := F36.binds (ps := ["thing"]) fun _ _ _ _ _ _ us hl => match us, hl with | [_], _ => rfl
  have F37 := fun_mk (st := S_behind_step) l37 c37 k37
  have b37 := F37.binds (ps := ["step", "rows"]) fun _ _ _ _ _ _ us hl => match us, hl with | [_, _], _ => rfl
  have F38 := fun_mk (st := S_fits) l38 c38 k38
  have b38 := F38.binds (ps := ["rows"]) fun _ _ _ _ _ _ us hl => match us, hl with | [_], _ => rfl
  have F39 := fun_mk (st := S_fitting) l39 c39 k39
  have b39 := F39.binds (ps := ["seen", "most"]) fun _ _ _ _ _ _ us hl => match us, hl with | [_, _], _ => rfl
  have F40 := fun_mk (st := S_still_in) l40 c40 k40
  have b40 := F40.binds (ps := ["wide", "part", "way", "begun", "size"]) fun _ _ _ _ _ _ us hl => match us, hl with | [_, _, _, _, _], _ => rfl
  have F41 := fun_mk (st := S_still) l41 c41 k41
  have b41 := F41.binds (ps := ["script", "length"]) fun _ _ _ _ _ _ us hl => match us, hl with | [_, _], _ => rfl
  have F42 := fun_mk (st := S_divisor) l42 c42 k42
  have b42 := F42.binds (ps := ["one", "other"]) fun _ _ _ _ _ _ us hl => match us, hl with | [_, _], _ => rfl
  have F43 := fun_mk (st := S_rounds) l43 c43 k43
  have b43 := F43.binds (ps := ["script", "length"]) fun _ _ _ _ _ _ us hl => match us, hl with | [_, _], _ => rfl
  have F44 := fun_mk (st := S__law_mix) l44 c44 k44
  have b44 := F44.binds (ps := ["_law_script", "_law_seed"]) fun _ _ _ _ _ _ us hl => match us, hl with | [_, _], _ => rfl
  have F45 := fun_mk (st := S__law_next) l45 c45 k45
  have b45 := F45.binds (ps := ["_law_h", "_law_cap"]) fun _ _ _ _ _ _ us hl => match us, hl with | [_, _], _ => rfl
  have F46 := fun_mk (st := S__law_pick) l46 c46 k46
  have b46 := F46.binds (ps := ["_law_h", "_law_things"]) fun _ _ _ _ _ _ us hl => match us, hl with | [_, _], _ => rfl
  have F47 := fun_mk (st := S__law_rows) l47 c47 k47
  have b47 := F47.binds (ps := []) fun _ _ _ _ _ _ us hl => match us, hl with | [], _ => rfl
  have F48 := fun_mk (st := S__law_evens) l48 c48 k48
  have b48 := F48.binds (ps := []) fun _ _ _ _ _ _ us hl => match us, hl with | [], _ => rfl
  have F49 := fun_mk (st := S__law_turned) l49 c49 k49
  have b49 := F49.binds (ps := []) fun _ _ _ _ _ _ us hl => match us, hl with | [], _ => rfl
  have F50 := fun_mk (st := S_law) l50 c50 k50
  have b50 := F50.binds (ps := ["_law_script"]) fun _ _ _ _ _ _ us hl => match us, hl with | [_], _ => rfl
  have F51 := fun_mk (st := S_Script___init__) l51 c51 k51
  have b51 := F51.binds (ps := ["self", "steps"]) fun _ _ _ _ _ _ us hl => match us, hl with | [_, _], _ => rfl
  have F52 := fun_mk (st := S_Script_wide) l52 c52 k52
  have b52 := F52.binds (ps := ["self"]) fun _ _ _ _ _ _ us hl => match us, hl with | [_], _ => rfl
  have F53 := fun_mk (st := S_Script___add__) l53 c53 k53
  have b53 := F53.binds (ps := ["self", "other"]) fun _ _ _ _ _ _ us hl => match us, hl with | [_, _], _ => rfl
  have F54 := fun_mk (st := S_Bench___init__) l54 c54 k54
  have b54 := F54.binds (ps := ["self", "text"]) fun _ _ _ _ _ _ us hl => match us, hl with | [_, _], _ => rfl
  have F55 := fun_mk (st := S_Bench_left) l55 c55 k55
  have b55 := F55.binds (ps := ["self"]) fun _ _ _ _ _ _ us hl => match us, hl with | [_], _ => rfl
  have F56 := fun_mk (st := S_Bench_go) l56 c56 k56
  have b56 := F56.binds (ps := ["self", "step"]) fun _ _ _ _ _ _ us hl => match us, hl with | [_, _], _ => rfl
  have F57 := fun_mk (st := S_Bench_read) l57 c57 k57
  have b57 := F57.binds (ps := ["self", "step"]) fun _ _ _ _ _ _ us hl => match us, hl with | [_, _], _ => rfl
  refine ⟨PySem.W.fnOf "law" "law" (defArgs S_law) (defBody S_law) (defScope S_law) .none kV50 dc50 pm50 an50 cd50 ct50, fun s v => .of_eq rfl, fun base _ _ => ?_⟩
  have u3 : PySem.W.kitOne K (.ref C) (.ref C) = some true := if_pos (beq_self_eq_true _)
  let m : Md := ⟨l.prog, w, K, mg, base, C⟩
  have S : ClsS m := ⟨⟨y1, y2, y3, y4⟩, y5, PySem.W.mg_of X G yC, y6, y7, y8, y9⟩
  have gS : GlD m "Script" (.own C) := ⟨.ref C, .ref C, PySem.W.mg_of X G yC, rfl, fun _ => rfl⟩
  have CB : BnC m B := ⟨⟨⟨y1B, y2B, y3B, y4B⟩, PySem.W.mg_of X G yB⟩, yB_given, yB_rows, yB_steps_done, yB_undone⟩
  have N_isinstance := PySem.W.mg_none_of X G z_isinstance
  have N_int := PySem.W.mg_none_of X G z_int
  have N_bool := PySem.W.mg_none_of X G z_bool
  have N_tuple := PySem.W.mg_none_of X G z_tuple
  have N_len := PySem.W.mg_none_of X G z_len
  have N_all := PySem.W.mg_none_of X G z_all
  have N_sorted := PySem.W.mg_none_of X G z_sorted
  have N_abs := PySem.W.mg_none_of X G z_abs
  have N_list := PySem.W.mg_none_of X G z_list
  have N_range := PySem.W.mg_none_of X G z_range
  have N_enumerate := PySem.W.mg_none_of X G z_enumerate
  have N_str := PySem.W.mg_none_of X G z_str
  have N_max := PySem.W.mg_none_of X G z_max
  have N_dict := PySem.W.mg_none_of X G z_dict
  have N_super := PySem.W.mg_none_of X G z_super
  have N_zip := PySem.W.mg_none_of X G z_zip
  have N_set := PySem.W.mg_none_of X G z_set
  have G_MOST_WIDE : GlD m "MOST_WIDE" (dI 3) := ⟨.int 3, _, PySem.W.mg_of X G i_MOST_WIDE, ⟨_, rfl⟩, fun _ => Dq.int _⟩
  have G_MOST_STEPS : GlD m "MOST_STEPS" (dI 3) := ⟨.int 3, _, PySem.W.mg_of X G i_MOST_STEPS, ⟨_, rfl⟩, fun _ => Dq.int _⟩
  have G_MOST_FITTING : GlD m "MOST_FITTING" (dI 2) := ⟨.int 2, _, PySem.W.mg_of X G i_MOST_FITTING, ⟨_, rfl⟩, fun _ => Dq.int _⟩
  have G_MOST_LENGTH : GlD m "MOST_LENGTH" (dI 1000000000000000000000000000000) := ⟨.int 1000000000000000000000000000000, _, PySem.W.mg_of X G i_MOST_LENGTH, ⟨_, rfl⟩, fun _ => Dq.int _⟩
  have G_SAME : GlD m "SAME" (.p (sD [1])) := ⟨.ref q_SAME, .ref q_SAME, PySem.W.mg_of X G t_SAME, rfl, fun H => Dq.tup (.inr ⟨_, _, _, tl_SAME, rfl, rfl, Nat.le_trans tw_SAME (by decide), intVals_ok tv_SAME⟩) (dpa_ints (ns := [1]))⟩
  have G_FIRST : GlD m "FIRST" (.p (bsD [(0, true)])) := ⟨.ref q_FIRST, .ref q_FIRST, PySem.W.mg_of X G t_FIRST, rfl, fun H => Dq.tup (.inr ⟨_, _, _, tl_FIRST, rfl, rfl, Nat.le_trans tw_FIRST (by decide), by rw [tv_FIRST]; exact .cons rfl .nil⟩) (.cons (Dq.tup (.inr ⟨_, _, _, rl_FIRST, rfl, rfl, Nat.le_trans tw2_FIRST (by decide), intVals_ok tv2_FIRST⟩) (dpa_ints (ns := [0, 1]))) .nil)⟩
  have G_RE := PySem.W.mg_of X G xB
  have O_TooLong : OexC K T_TooLong := ⟨⟨_, _, _, _, _, _, _, _, _, _, _, _, _, _, _, xo_TooLong, xr_TooLong⟩, xs_TooLong, xb_TooLong, xt_TooLong, xk_TooLong⟩
  have U_TooLong : SupF K l.prog (NdefX.NF.mk "__init__" "TooLong.__init__" (defArgs S_TooLong___init__) (defBody S_TooLong___init__) (defScope S_TooLong___init__) [(("__class__" : Str), cc_TooLong)] cda_TooLong) g_TooLong T_TooLong cc_TooLong "self" := ⟨⟨_, _, _, _, _, _, xl_TooLong⟩, ⟨_, rfl, rfl⟩, rfl, ⟨_, _, _, _, _, _, xc_TooLong, xv_TooLong, xf_TooLong⟩, ⟨_, _, _, xe_TooLong⟩, by obtain ⟨cd, hc, _⟩ := PySem.W.any_some xd_TooLong; exact ⟨cd, hc⟩, xm_TooLong, xq, xi_TooLong, xV_TooLong, xp, rfl, (show (defScope S_TooLong___init__).names.lookup ("super" : Str) = some .globalImplicit by decide +kernel), (show (defScope S_TooLong___init__).names.lookup ("__class__" : Str) = some .free by decide +kernel), (show (defScope S_TooLong___init__).names.lookup ("self" : Str) = some .local by decide +kernel)⟩
  have X_TooLong : ExcC K T_TooLong := ⟨xa_TooLong, xn_TooLong, xb_TooLong, xd_TooLong, xcl_TooLong, xw, xu, xob_TooLong⟩
  have G_TooLong := PySem.W.mg_of X G xg_TooLong
  have M_TooLong : PySem.W.exmOne K (.ref T_TooLong) (.ref T_TooLong) = some true := PySem.W.exm_ref xb_TooLong xd_TooLong xt_TooLong xS_TooLong
  have R_TooLong : PySem.W.kitOne K (.ref T_TooLong) (.ref RE_) = some true := kit_sub xBc xBt xR_TooLong
  have E_TooLong : ErrK m 1 "TooLong" T_TooLong (sp0 T_TooLong) := ⟨⟨g_TooLong, _, _, O_TooLong, xin_TooLong, xti_TooLong, ok_err0 (m := m) (k := 0) xl_TooLong xcd_TooLong (NdefX.nscope_by (show NdefX.nscB ["self", "__class__"] ["self"] ["__class__"] (defScope S_TooLong___init__) = true by decide +kernel)) U_TooLong O_TooLong N_super rfl (fun _ => rfl), fun s us _ hl => (match us, hl with | [_], _ => .of_eq rfl), G_TooLong⟩⟩
  have O_InvalidLength : OexC K T_InvalidLength := ⟨⟨_, _, _, _, _, _, _, _, _, _, _, _, _, _, _, xo_InvalidLength, xr_InvalidLength⟩, xs_InvalidLength, xb_InvalidLength, xt_InvalidLength, xk_InvalidLength⟩
  have U_InvalidLength : SupF K l.prog (NdefX.NF.mk "__init__" "InvalidLength.__init__" (defArgs S_InvalidLength___init__) (defBody S_InvalidLength___init__) (defScope S_InvalidLength___init__) [(("__class__" : Str), cc_InvalidLength)] cda_InvalidLength) g_InvalidLength T_InvalidLength cc_InvalidLength "self" := ⟨⟨_, _, _, _, _, _, xl_InvalidLength⟩, ⟨_, rfl, rfl⟩, rfl, ⟨_, _, _, _, _, _, xc_InvalidLength, xv_InvalidLength, xf_InvalidLength⟩, ⟨_, _, _, xe_InvalidLength⟩, by obtain ⟨cd, hc, _⟩ := PySem.W.any_some xd_InvalidLength; exact ⟨cd, hc⟩, xm_InvalidLength, xq, xi_InvalidLength, xV_InvalidLength, xp, rfl, (show (defScope S_InvalidLength___init__).names.lookup ("super" : Str) = some .globalImplicit by decide +kernel), (show (defScope S_InvalidLength___init__).names.lookup ("__class__" : Str) = some .free by decide +kernel), (show (defScope S_InvalidLength___init__).names.lookup ("self" : Str) = some .local by decide +kernel)⟩
  have X_InvalidLength : ExcC K T_InvalidLength := ⟨xa_InvalidLength, xn_InvalidLength, xb_InvalidLength, xd_InvalidLength, xcl_InvalidLength, xw, xu, xob_InvalidLength⟩
  have G_InvalidLength := PySem.W.mg_of X G xg_InvalidLength
  have M_InvalidLength : PySem.W.exmOne K (.ref T_InvalidLength) (.ref T_InvalidLength) = some true := PySem.W.exm_ref xb_InvalidLength xd_InvalidLength xt_InvalidLength xS_InvalidLength
  have R_InvalidLength : PySem.W.kitOne K (.ref T_InvalidLength) (.ref RE_) = some true := kit_sub xBc xBt xR_InvalidLength
  have E_InvalidLength : ErrK m 1 "InvalidLength" T_InvalidLength (sp0 T_InvalidLength) := ⟨⟨g_InvalidLength, _, _, O_InvalidLength, xin_InvalidLength, xti_InvalidLength, ok_err0 (m := m) (k := 0) xl_InvalidLength xcd_InvalidLength (NdefX.nscope_by (show NdefX.nscB ["self", "__class__"] ["self"] ["__class__"] (defScope S_InvalidLength___init__) = true by decide +kernel)) U_InvalidLength O_InvalidLength N_super rfl (fun _ => rfl), fun s us _ hl => (match us, hl with | [_], _ => .of_eq rfl), G_InvalidLength⟩⟩
  have O_AllStill : OexC K T_AllStill := ⟨⟨_, _, _, _, _, _, _, _, _, _, _, _, _, _, _, xo_AllStill, xr_AllStill⟩, xs_AllStill, xb_AllStill, xt_AllStill, xk_AllStill⟩
  have U_AllStill : SupF K l.prog (NdefX.NF.mk "__init__" "AllStill.__init__" (defArgs S_AllStill___init__) (defBody S_AllStill___init__) (defScope S_AllStill___init__) [(("__class__" : Str), cc_AllStill)] cda_AllStill) g_AllStill T_AllStill cc_AllStill "self" := ⟨⟨_, _, _, _, _, _, xl_AllStill⟩, ⟨_, rfl, rfl⟩, rfl, ⟨_, _, _, _, _, _, xc_AllStill, xv_AllStill, xf_AllStill⟩, ⟨_, _, _, xe_AllStill⟩, by obtain ⟨cd, hc, _⟩ := PySem.W.any_some xd_AllStill; exact ⟨cd, hc⟩, xm_AllStill, xq, xi_AllStill, xV_AllStill, xp, rfl, (show (defScope S_AllStill___init__).names.lookup ("super" : Str) = some .globalImplicit by decide +kernel), (show (defScope S_AllStill___init__).names.lookup ("__class__" : Str) = some .free by decide +kernel), (show (defScope S_AllStill___init__).names.lookup ("self" : Str) = some .local by decide +kernel)⟩
  have X_AllStill : ExcC K T_AllStill := ⟨xa_AllStill, xn_AllStill, xb_AllStill, xd_AllStill, xcl_AllStill, xw, xu, xob_AllStill⟩
  have G_AllStill := PySem.W.mg_of X G xg_AllStill
  have M_AllStill : PySem.W.exmOne K (.ref T_AllStill) (.ref T_AllStill) = some true := PySem.W.exm_ref xb_AllStill xd_AllStill xt_AllStill xS_AllStill
  have R_AllStill : PySem.W.kitOne K (.ref T_AllStill) (.ref RE_) = some true := kit_sub xBc xBt xR_AllStill
  have E_AllStill : ErrK m 1 "AllStill" T_AllStill (sp0 T_AllStill) := ⟨⟨g_AllStill, _, _, O_AllStill, xin_AllStill, xti_AllStill, ok_err0 (m := m) (k := 0) xl_AllStill xcd_AllStill (NdefX.nscope_by (show NdefX.nscB ["self", "__class__"] ["self"] ["__class__"] (defScope S_AllStill___init__) = true by decide +kernel)) U_AllStill O_AllStill N_super rfl (fun _ => rfl), fun s us _ hl => (match us, hl with | [_], _ => .of_eq rfl), G_AllStill⟩⟩
  have O_InvalidLimit : OexC K T_InvalidLimit := ⟨⟨_, _, _, _, _, _, _, _, _, _, _, _, _, _, _, xo_InvalidLimit, xr_InvalidLimit⟩, xs_InvalidLimit, xb_InvalidLimit, xt_InvalidLimit, xk_InvalidLimit⟩
  have U_InvalidLimit : SupF K l.prog (NdefX.NF.mk "__init__" "InvalidLimit.__init__" (defArgs S_InvalidLimit___init__) (defBody S_InvalidLimit___init__) (defScope S_InvalidLimit___init__) [(("__class__" : Str), cc_InvalidLimit)] cda_InvalidLimit) g_InvalidLimit T_InvalidLimit cc_InvalidLimit "self" := ⟨⟨_, _, _, _, _, _, xl_InvalidLimit⟩, ⟨_, rfl, rfl⟩, rfl, ⟨_, _, _, _, _, _, xc_InvalidLimit, xv_InvalidLimit, xf_InvalidLimit⟩, ⟨_, _, _, xe_InvalidLimit⟩, by obtain ⟨cd, hc, _⟩ := PySem.W.any_some xd_InvalidLimit; exact ⟨cd, hc⟩, xm_InvalidLimit, xq, xi_InvalidLimit, xV_InvalidLimit, xp, rfl, (show (defScope S_InvalidLimit___init__).names.lookup ("super" : Str) = some .globalImplicit by decide +kernel), (show (defScope S_InvalidLimit___init__).names.lookup ("__class__" : Str) = some .free by decide +kernel), (show (defScope S_InvalidLimit___init__).names.lookup ("self" : Str) = some .local by decide +kernel)⟩
  have X_InvalidLimit : ExcC K T_InvalidLimit := ⟨xa_InvalidLimit, xn_InvalidLimit, xb_InvalidLimit, xd_InvalidLimit, xcl_InvalidLimit, xw, xu, xob_InvalidLimit⟩
  have G_InvalidLimit := PySem.W.mg_of X G xg_InvalidLimit
  have M_InvalidLimit : PySem.W.exmOne K (.ref T_InvalidLimit) (.ref T_InvalidLimit) = some true := PySem.W.exm_ref xb_InvalidLimit xd_InvalidLimit xt_InvalidLimit xS_InvalidLimit
  have R_InvalidLimit : PySem.W.kitOne K (.ref T_InvalidLimit) (.ref RE_) = some true := kit_sub xBc xBt xR_InvalidLimit
  have E_InvalidLimit : ErrK m 1 "InvalidLimit" T_InvalidLimit (sp0 T_InvalidLimit) := ⟨⟨g_InvalidLimit, _, _, O_InvalidLimit, xin_InvalidLimit, xti_InvalidLimit, ok_err0 (m := m) (k := 0) xl_InvalidLimit xcd_InvalidLimit (NdefX.nscope_by (show NdefX.nscB ["self", "__class__"] ["self"] ["__class__"] (defScope S_InvalidLimit___init__) = true by decide +kernel)) U_InvalidLimit O_InvalidLimit N_super rfl (fun _ => rfl), fun s us _ hl => (match us, hl with | [_], _ => .of_eq rfl), G_InvalidLimit⟩⟩
  have O_InvalidSeen : OexC K T_InvalidSeen := ⟨⟨_, _, _, _, _, _, _, _, _, _, _, _, _, _, _, xo_InvalidSeen, xr_InvalidSeen⟩, xs_InvalidSeen, xb_InvalidSeen, xt_InvalidSeen, xk_InvalidSeen⟩
  have U_InvalidSeen : SupF K l.prog (NdefX.NF.mk "__init__" "InvalidSeen.__init__" (defArgs S_InvalidSeen___init__) (defBody S_InvalidSeen___init__) (defScope S_InvalidSeen___init__) [(("__class__" : Str), cc_InvalidSeen)] cda_InvalidSeen) g_InvalidSeen T_InvalidSeen cc_InvalidSeen "self" := ⟨⟨_, _, _, _, _, _, xl_InvalidSeen⟩, ⟨_, rfl, rfl⟩, rfl, ⟨_, _, _, _, _, _, xc_InvalidSeen, xv_InvalidSeen, xf_InvalidSeen⟩, ⟨_, _, _, xe_InvalidSeen⟩, by obtain ⟨cd, hc, _⟩ := PySem.W.any_some xd_InvalidSeen; exact ⟨cd, hc⟩, xm_InvalidSeen, xq, xi_InvalidSeen, xV_InvalidSeen, xp, rfl, (show (defScope S_InvalidSeen___init__).names.lookup ("super" : Str) = some .globalImplicit by decide +kernel), (show (defScope S_InvalidSeen___init__).names.lookup ("__class__" : Str) = some .free by decide +kernel), (show (defScope S_InvalidSeen___init__).names.lookup ("self" : Str) = some .local by decide +kernel)⟩
  have X_InvalidSeen : ExcC K T_InvalidSeen := ⟨xa_InvalidSeen, xn_InvalidSeen, xb_InvalidSeen, xd_InvalidSeen, xcl_InvalidSeen, xw, xu, xob_InvalidSeen⟩
  have G_InvalidSeen := PySem.W.mg_of X G xg_InvalidSeen
  have M_InvalidSeen : PySem.W.exmOne K (.ref T_InvalidSeen) (.ref T_InvalidSeen) = some true := PySem.W.exm_ref xb_InvalidSeen xd_InvalidSeen xt_InvalidSeen xS_InvalidSeen
  have R_InvalidSeen : PySem.W.kitOne K (.ref T_InvalidSeen) (.ref RE_) = some true := kit_sub xBc xBt xR_InvalidSeen
  have X2_InvalidSeen : XfC K T_InvalidSeen := ⟨xa_InvalidSeen, xn_InvalidSeen, xb_InvalidSeen, xd_InvalidSeen⟩
  have E_InvalidSeen : ErrK m 1 "InvalidSeen" T_InvalidSeen (sp1 T_InvalidSeen "index") := ⟨⟨g_InvalidSeen, _, _, O_InvalidSeen, xin_InvalidSeen, xti_InvalidSeen, ok_err1 (m := m) (k := 0) xl_InvalidSeen xcd_InvalidSeen (NdefX.nscope_by (show NdefX.nscB ["self", "index", "__class__"] ["self", "index"] ["__class__"] (defScope S_InvalidSeen___init__) = true by decide +kernel)) U_InvalidSeen O_InvalidSeen N_super xF_InvalidSeen (show (defScope S_InvalidSeen___init__).names.lookup ("index" : Str) = some .local by decide +kernel) (by decide) (by decide) (by decide) (by decide) rfl (fun _ => rfl) (fun _ => rfl), fun s us _ hl => (match us, hl with | [_, _], _ => .of_eq rfl), G_InvalidSeen⟩⟩
  have D_is_integer : Fd m CX0 1 "is_integer" _ := (⟨⟨f0, _, _, ok_II (m := m) (k := 0) F0 N_isinstance N_int N_bool, PySem.W.mg_of X G a0, k0, b0⟩⟩ : Fd m CX0 1 "is_integer" _)
  have D_is_step : Fd m CX0 2 "is_step" _ := (⟨⟨f1, _, _, ok_isStep (m := m) (k := 1) F1 D_is_integer G_MOST_WIDE N_isinstance N_tuple N_len N_all N_sorted N_abs N_list N_range, PySem.W.mg_of X G a1, k1, b1⟩⟩ : Fd m CX0 2 "is_step" _)
  have D_mk : MkS m 3 _ := ⟨⟨f51, ⟨u1, a51, n51, u2⟩, ⟨_, _, fn_lift (ok_init (m := m) (k := 2) F51 D_is_step S G_MOST_STEPS N_isinstance N_tuple N_len N_enumerate), b51⟩⟩⟩
  have D_product_of : Fd m CX0 1 "product_of" _ := (⟨⟨f2, _, _, ok_prod (m := m) (k := 0) F2 N_len, PySem.W.mg_of X G a2, k2, b2⟩⟩ : Fd m CX0 1 "product_of" _)
  have D_pr_wide : PrS m 2 "wide" _ := ⟨⟨p52, f52, ⟨a52, g52, t52, _, r52⟩, ⟨_, _, fn_lift (ok_wideP (m := m) (k := 1) F52 D_product_of S), b52⟩⟩⟩
  have D_sp__add__ : SpS m 5 "__add__" _ := ⟨⟨f53, a53, n53, ⟨_, _, ok_add (m := m) (k := 4) F53 D_mk (by decide) S (E_TooLong.mono (by decide)) G_MOST_STEPS N_len, b53⟩⟩⟩
  have D_column_size : Fd m CX0 1 "column_size" _ := (⟨⟨f3, _, _, ok_size (m := m) (k := 0) F3 , PySem.W.mg_of X G a3, k3, b3⟩⟩ : Fd m CX0 1 "column_size" _)
  have D_place_by : Fd m CX0 2 "place_by" _ := (⟨⟨f4, _, _, ok_placeBy (m := m) (k := 1) F4 D_column_size N_len N_abs, PySem.W.mg_of X G a4, k4, b4⟩⟩ : Fd m CX0 2 "place_by" _)
  have D_whence_by : Fd m CX0 2 "whence_by" _ := (⟨⟨f5, _, _, ok_whenceBy (m := m) (k := 1) F5 D_column_size N_len N_abs, PySem.W.mg_of X G a5, k5, b5⟩⟩ : Fd m CX0 2 "whence_by" _)
  have D_check_length : Fd m CX0 2 "check_length" _ := (⟨⟨f6, _, _, ok_chkL (m := m) (k := 1) F6 D_is_integer G_MOST_LENGTH, PySem.W.mg_of X G a6, k6, b6⟩⟩ : Fd m CX0 2 "check_length" _)
  have D_LX : Fd m (L2.CX m.P m.w) 3 "check_length" _ := (⟨⟨f6, _, _, ok_chkG (m := m) (k := 2) F6 (D_is_integer.mono (by decide)) E_InvalidLength (by decide) G_MOST_LENGTH, PySem.W.mg_of X G a6, k6, b6⟩⟩ : Fd m (L2.CX m.P m.w) 3 "check_length" _)
  have D_check_sign : Fd m CX0 3 "check_sign" _ := (⟨⟨f7, _, _, ok_chkS (m := m) (k := 2) F7 (D_is_integer.mono (by decide)) D_check_length, PySem.W.mg_of X G a7, k7, b7⟩⟩ : Fd m CX0 3 "check_sign" _)
  have D_place_in : Fd m CX0 3 "place_in" _ := (⟨⟨f8, _, _, ok_placeIn (m := m) (k := 2) F8 D_place_by, PySem.W.mg_of X G a8, k8, b8⟩⟩ : Fd m CX0 3 "place_in" _)
  have D_place : Fd m CX0 4 "place" _ := (⟨⟨f9, _, _, ok_place (m := m) (k := 3) F9 D_check_sign D_place_in S, PySem.W.mg_of X G a9, k9, b9⟩⟩ : Fd m CX0 4 "place" _)
  have D_whence : Fd m CX0 4 "whence" _ := (⟨⟨f10, _, _, ok_whence (m := m) (k := 3) F10 D_check_sign (D_whence_by.mono (by decide)) S, PySem.W.mg_of X G a10, k10, b10⟩⟩ : Fd m CX0 4 "whence" _)
  have D_next_blocks : Fd m CX0 2 "next_blocks" _ := (⟨⟨f16, _, _, ok_nextBlocks (m := m) (k := 1) F16 D_column_size N_len N_range N_abs N_tuple, PySem.W.mg_of X G a16, k16, b16⟩⟩ : Fd m CX0 2 "next_blocks" _)
  have D_order_for : Fd m CX0 3 "order_for" _ := (⟨⟨f17, _, _, ok_orderFor (m := m) (k := 2) F17 D_next_blocks G_FIRST N_len N_tuple, PySem.W.mg_of X G a17, k17, b17⟩⟩ : Fd m CX0 3 "order_for" _)
  have D_order_at : Fd m CX0 4 "order_at" _ := (⟨⟨f20, _, _, ok_orderAt (m := m) (k := 3) F20 (D_check_length.mono (by decide)) D_order_for S D_pr_wide (by decide), PySem.W.mg_of X G a20, k20, b20⟩⟩ : Fd m CX0 4 "order_at" _)
  have D_orders_of : Fd m CX0 4 "orders_of" _ := (⟨⟨f18, _, _, ok_ordersOf (m := m) (k := 3) F18 D_order_for S D_pr_wide (by decide) N_tuple N_range, PySem.W.mg_of X G a18, k18, b18⟩⟩ : Fd m CX0 4 "orders_of" _)
  have D_orders : Fd m CX0 5 "orders" _ := (⟨⟨f19, _, _, ok_orders (m := m) (k := 4) F19 D_orders_of, PySem.W.mg_of X G a19, k19, b19⟩⟩ : Fd m CX0 5 "orders" _)
  have D_is_steady : Fd m CX0 5 "is_steady" _ := (⟨⟨f21, _, _, ok_steady (m := m) (k := 4) F21 D_orders_of N_all, PySem.W.mg_of X G a21, k21, b21⟩⟩ : Fd m CX0 5 "is_steady" _)
  have D_read_items : Fd m CX0 1 "read_items" _ := (⟨⟨f11, _, _, ok_readItems (m := m) (k := 0) F11 N_len N_abs N_list, PySem.W.mg_of X G a11, k11, b11⟩⟩ : Fd m CX0 1 "read_items" _)
  have D_done_items : Fd m CX0 2 "done_items" _ := (⟨⟨f12, _, _, ok_doneItems (m := m) (k := 1) F12 D_read_items N_list, PySem.W.mg_of X G a12, k12, b12⟩⟩ : Fd m CX0 2 "done_items" _)
  have D_like : Fd m CX0 1 "like" _ := (⟨⟨f13, _, _, ok_like (m := m) (k := 0) F13 N_isinstance N_str N_tuple, PySem.W.mg_of X G a13, k13, b13⟩⟩ : Fd m CX0 1 "like" _)
  have D_read_by : Fd m CX0 2 "read_by" _ := (⟨⟨f22, _, _, ok_readBy (m := m) (k := 1) F22 D_read_items D_like N_list, PySem.W.mg_of X G a22, k22, b22⟩⟩ : Fd m CX0 2 "read_by" _)
  have D_done : Fd m CX0 3 "done" _ := (⟨⟨f14, _, _, ok_done (m := m) (k := 2) F14 D_done_items (D_like.mono (by decide)) S N_list, PySem.W.mg_of X G a14, k14, b14⟩⟩ : Fd m CX0 3 "done" _)
  have D_back : Fd m CX0 3 "back" _ := (⟨⟨f15, _, _, ok_back (m := m) (k := 2) F15 D_done_items (D_like.mono (by decide)) S N_list N_len N_range N_enumerate, PySem.W.mg_of X G a15, k15, b15⟩⟩ : Fd m CX0 3 "back" _)
  have D_are_alike : Fd m CX0 5 "are_alike" _ := (⟨⟨f23, _, _, ok_areAlike (m := m) (k := 4) F23 D_orders_of S (D_pr_wide.mono (by decide)) (by decide), PySem.W.mg_of X G a23, k23, b23⟩⟩ : Fd m CX0 5 "are_alike" _)
  have D_alike : Fd m CX0 6 "alike" _ := (⟨⟨f27, _, _, ok_alikeS (m := m) (k := 5) F27 D_are_alike, PySem.W.mg_of X G a27, k27, b27⟩⟩ : Fd m CX0 6 "alike" _)
  have D_are_same : Fd m CX0 3 "are_same" _ := (⟨⟨f24, _, _, ok_same (m := m) (k := 2) F24 D_done_items S N_list N_range, PySem.W.mg_of X G a24, k24, b24⟩⟩ : Fd m CX0 3 "are_same" _)
  have D_places_in : Fd m CX0 3 "places_in" _ := (⟨⟨f25, _, _, ok_placesIn (m := m) (k := 2) F25 D_done_items S N_list N_range N_enumerate, PySem.W.mg_of X G a25, k25, b25⟩⟩ : Fd m CX0 3 "places_in" _)
  have D_parting : Fd m CX0 6 "parting" _ := (⟨⟨f26, _, _, ok_parting (m := m) (k := 5) F26 D_are_alike (D_are_same.mono (by decide)) (D_places_in.mono (by decide)) N_range, PySem.W.mg_of X G a26, k26, b26⟩⟩ : Fd m CX0 6 "parting" _)
  have D_common : Fd m CX0 1 "common" _ := (⟨⟨f28, _, _, ok_common (m := m) (k := 0) F28 , PySem.W.mg_of X G a28, k28, b28⟩⟩ : Fd m CX0 1 "common" _)
  have D_agreeing : Fd m CX0 5 "agreeing" _ := (⟨⟨f29, _, _, ok_agreeing (m := m) (k := 4) F29 D_orders_of (D_common.mono (by decide)) (D_are_same.mono (by decide)) S (D_pr_wide.mono (by decide)) (by decide) N_list N_zip N_tuple N_enumerate N_range, PySem.W.mg_of X G a29, k29, b29⟩⟩ : Fd m CX0 5 "agreeing" _)
  have D_rows0 : Fd m CX0 1 "rows_of" (phRows 0) := ⟨⟨f31, _, _, ok_rowsOf (m := m) (k := 0) (d := 0) F31 (fun d h => by omega) (by decide), PySem.W.mg_of X G a31, k31, b31⟩⟩
  have D_rows1 : Fd m CX0 2 "rows_of" (phRows 1) := ⟨⟨f31, _, _, ok_rowsOf (m := m) (k := 1) (d := 1) F31 (fun d h => by obtain rfl : d = 0 := (by omega); exact D_rows0) (by decide), PySem.W.mg_of X G a31, k31, b31⟩⟩
  have D_rows2 : Fd m CX0 3 "rows_of" (phRows 2) := ⟨⟨f31, _, _, ok_rowsOf (m := m) (k := 2) (d := 2) F31 (fun d h => by obtain rfl : d = 1 := (by omega); exact D_rows1) (by decide), PySem.W.mg_of X G a31, k31, b31⟩⟩
  have D_rows3 : Fd m CX0 4 "rows_of" (phRows 3) := ⟨⟨f31, _, _, ok_rowsOf (m := m) (k := 3) (d := 3) F31 (fun d h => by obtain rfl : d = 2 := (by omega); exact D_rows2) (by decide), PySem.W.mg_of X G a31, k31, b31⟩⟩
  have D_all_steps : Fd m CX0 5 "all_steps" _ := (⟨⟨f32, _, _, ok_allSteps (m := m) (k := 4) F32 D_rows3 N_sorted N_list N_range, PySem.W.mg_of X G a32, k32, b32⟩⟩ : Fd m CX0 5 "all_steps" _)
  have D_exchangeable : Fd m CX0 6 "exchangeable" _ := (⟨⟨f33, _, _, ok_exch (m := m) (k := 5) F33 D_are_alike (D_mk.mono (by decide)) S (by decide) N_len N_range, PySem.W.mg_of X G a33, k33, b33⟩⟩ : Fd m CX0 6 "exchangeable" _)
  have D_candidates : Fd m CX0 6 "candidates" _ := (⟨⟨f34, _, _, ok_cand (m := m) (k := 5) F34 D_all_steps N_sorted N_range G_MOST_WIDE, PySem.W.mg_of X G a34, k34, b34⟩⟩ : Fd m CX0 6 "candidates" _)
  have D_shortest : Fd m CX0 7 "shortest" _ := (⟨⟨f35, _, _, ok_short (m := m) (k := 6) F35 D_candidates (D_are_alike.mono (by decide)) S (D_pr_wide.mono (by decide)) (D_mk.mono (by decide)) (by decide) N_range, PySem.W.mg_of X G a35, k35, b35⟩⟩ : Fd m CX0 7 "shortest" _)
  have D_is_seen : Fd m CX0 2 "is_seen" _ := (⟨⟨f36, _, _, ok_isSeen (m := m) (k := 1) F36 D_is_integer G_MOST_LENGTH N_isinstance N_tuple N_len, PySem.W.mg_of X G a36, k36, b36⟩⟩ : Fd m CX0 2 "is_seen" _)
  have D_behind_step : Fd m CX0 3 "behind_step" _ := (⟨⟨f37, _, _, ok_behind (m := m) (k := 2) F37 D_place_by, PySem.W.mg_of X G a37, k37, b37⟩⟩ : Fd m CX0 3 "behind_step" _)
  have D_fits : Fd m CX0 1 "fits" _ := (⟨⟨f38, _, _, ok_fits (m := m) (k := 0) F38 N_all, PySem.W.mg_of X G a38, k38, b38⟩⟩ : Fd m CX0 1 "fits" _)
  have D_fitting : Fd m (L2.CX m.P m.w) 6 "fitting" _ := (⟨⟨f39, _, _, ok_fitting (m := m) (k := 5) F39 (D_is_integer.mono (by decide)) (D_is_seen.mono (by decide)) (D_all_steps.mono (by decide)) (D_behind_step.mono (by decide)) (D_fits.mono (by decide)) E_InvalidLimit (by decide) E_InvalidSeen (by decide) G_MOST_FITTING G_MOST_WIDE G_SAME N_enumerate N_range N_list N_sorted, PySem.W.mg_of X G a39, k39, b39⟩⟩ : Fd m (L2.CX m.P m.w) 6 "fitting" _)
  have D_still_in : Fd m CX0 1 "still_in" _ := (⟨⟨f40, _, _, ok_stIn (m := m) (k := 0) F40 , PySem.W.mg_of X G a40, k40, b40⟩⟩ : Fd m CX0 1 "still_in" _)
  have D_still : Fd m (L2.CX m.P m.w) 4 "still" _ := (⟨⟨f41, _, _, ok_still (m := m) (k := 3) F41 (D_LX.mono (by decide)) (D_order_for.mono (by decide)) (D_column_size.mono (by decide)) (D_still_in.mono (by decide)) E_AllStill (by decide) S (D_pr_wide.mono (by decide)) (by decide) N_abs N_sorted, PySem.W.mg_of X G a41, k41, b41⟩⟩ : Fd m (L2.CX m.P m.w) 4 "still" _)
  have D_divisor : Fd m CX0 1 "divisor" _ := (⟨⟨f42, _, _, ok_divisor (m := m) (k := 0) F42 , PySem.W.mg_of X G a42, k42, b42⟩⟩ : Fd m CX0 1 "divisor" _)
  have D_rounds : Fd m (L2.CX m.P m.w) 4 "rounds" _ := (⟨⟨f43, _, _, ok_rounds (m := m) (k := 3) F43 D_LX (D_done_items.mono (by decide)) (D_divisor.mono (by decide)) S N_list N_range, PySem.W.mg_of X G a43, k43, b43⟩⟩ : Fd m (L2.CX m.P m.w) 4 "rounds" _)
  have D_text_now : Fd m CX0 2 "text_now" _ := (⟨⟨f30, _, _, ok_textNow (m := m) (k := 1) F30 CB D_like, PySem.W.mg_of X G a30, k30, b30⟩⟩ : Fd m CX0 2 "text_now" _)
  have B_mk : MkB m B 2 _ := ⟨⟨f54, ⟨u1B, a54, n54, u2B⟩, ⟨_, _, fn_lift (ok_bnInit (m := m) (k := 1) F54 CB D_like N_tuple N_list N_range N_len), b54⟩⟩⟩
  have B_left : PrB m B 1 "left" _ := ⟨⟨p55, f55, ⟨a55, g55, t55, _, r55⟩, ⟨_, _, fn_lift (ok_bnLeft (m := m) (k := 0) F55 CB), b55⟩⟩⟩
  have B_go : MtB m B 2 "go" _ := ⟨⟨f56, ⟨a56, n56, k56⟩, ⟨_, _, fn_lift (ok_bnGo (m := m) (k := 1) F56 CB D_read_items N_tuple), b56⟩⟩⟩
  have B_read : MtB m B 3 "read" _ := ⟨⟨f57, ⟨a57, n57, k57⟩, ⟨_, _, fn_lift (ok_bnRead (m := m) (k := 2) F57 CB D_is_step B_go D_text_now), b57⟩⟩⟩
  have D__law_mix : Fd m CX0 1 "_law_mix" _ := (⟨⟨f44, _, _, ok_mix (m := m) (k := 0) F44 N_int N_list, PySem.W.mg_of X G a44, k44, b44⟩⟩ : Fd m CX0 1 "_law_mix" _)
  have D__law_next : Fd m CX0 1 "_law_next" _ := (⟨⟨f45, _, _, ok_next (m := m) (k := 0) F45 N_int N_max N_len, PySem.W.mg_of X G a45, k45, b45⟩⟩ : Fd m CX0 1 "_law_next" _)
  have D__law_pick : Fd m CX0 2 "_law_pick" _ := (⟨⟨f46, _, _, ok_pick (m := m) (k := 1) F46 D__law_next N_len (by decide), PySem.W.mg_of X G a46, k46, b46⟩⟩ : Fd m CX0 2 "_law_pick" _)
  have D__law_rows : Fd m CX0 8 "_law_rows" _ := (⟨⟨f47, _, _, ok_rows21 (m := m) (k := 7) F47 (D_done.mono (by decide)) (D_back.mono (by decide)) (D_sp__add__.mono (by decide)) xsf (D_place.mono (by decide)) (D_whence.mono (by decide)) (D_fitting.mono (by decide)) (D_mk.mono (by decide)) S (by decide), PySem.W.mg_of X G a47, k47, b47⟩⟩ : Fd m CX0 8 "_law_rows" _)
  have D__law_evens : Fd m CX0 8 "_law_evens" _ := (⟨⟨f48, _, _, ok_evens21 (m := m) (k := 7) F48 (D_orders.mono (by decide)) (D_is_steady.mono (by decide)) (D_order_at.mono (by decide)) (D_read_by.mono (by decide)) (D_done.mono (by decide)) (D_agreeing.mono (by decide)) (D_parting.mono (by decide)) (D_still.mono (by decide)) (D_rounds.mono (by decide)) (D_mk.mono (by decide)) S (by decide), PySem.W.mg_of X G a48, k48, b48⟩⟩ : Fd m CX0 8 "_law_evens" _)
  have D__law_turned : Fd m CX0 8 "_law_turned" _ := (⟨⟨f49, _, _, ok_turned21 (m := m) (k := 7) F49 (D_still.mono (by decide)) (D_rounds.mono (by decide)) (D_sp__add__.mono (by decide)) xsf (D_agreeing.mono (by decide)) (D_exchangeable.mono (by decide)) (D_shortest.mono (by decide)) (D_parting.mono (by decide)) (D_alike.mono (by decide)) (D_mk.mono (by decide)) S (by decide), PySem.W.mg_of X G a49, k49, b49⟩⟩ : Fd m CX0 8 "_law_turned" _)
  exact (ok_law (m := m) (k := 8) F50 (D__law_mix.mono (by decide)) (D__law_pick.mono (by decide)) (D__law_rows.mono (by decide)) (D__law_evens.mono (by decide)) (D__law_turned.mono (by decide)) CB (B_mk.mono (by decide)) (B_read.mono (by decide)) (B_left.mono (by decide)) (by decide)).imp fun vs H Q E h => sp_law (G := m.G) h
end
end CR
open PySem PySem.W PyProof.Rows
set_option maxHeartbeats 0 in
theorem PySem.Challenge.cw_columnread_k21_known_readings_holds : PySem.Challenge.rw_columnread_k21_known_readings.Holds := by
  w_on; o_law; k_head; (case hw => w_witness2)
  k_fill
  refine L2.walk_of (l := PySem.Challenge.rw_columnread_k21_known_readings) (n := 63) (k := 9) (x := "_law_script") (CX := fun w => L2.CX0) (sp := fun w => CR.spLaw _) rfl (by decide) rfl ⟨rfl, by decide, by decide⟩ (fun w h Y => PySem.W.kIn_of Y) ?F (fun _ _ a ns hl _ hS => ⟨a, ns, rfl, hS, hl, fun _ => rfl⟩) (fun _ _ _ _ _ h => h)
  case F =>
    intro w mg fa h KX G hmg
    refine' CR.all_mk KX G hmg ?yC ?yB ?a0 ?l0 ?c0 ?k0 ?a1 ?l1 ?c1 ?k1 ?a2 ?l2 ?c2 ?k2 ?a3 ?l3 ?c3 ?k3 ?a4 ?l4 ?c4 ?k4 ?a5 ?l5 ?c5 ?k5 ?a6 ?l6 ?c6 ?k6 ?a7 ?l7 ?c7 ?k7 ?a8 ?l8 ?c8 ?k8 ?a9 ?l9 ?c9 ?k9 ?a10 ?l10 ?c10 ?k10 ?a11 ?l11 ?c11 ?k11 ?a12 ?l12 ?c12 ?k12 ?a13 ?l13 ?c13 ?k13 ?a14 ?l14 ?c14 ?k14 ?a15 ?l15 ?c15 ?k15 ?a16 ?l16 ?c16 ?k16 ?a17 ?l17 ?c17 ?k17 ?a18 ?l18 ?c18 ?k18 ?a19 ?l19 ?c19 ?k19 ?a20 ?l20 ?c20 ?k20 ?a21 ?l21 ?c21 ?k21 ?a22 ?l22 ?c22 ?k22 ?a23 ?l23 ?c23 ?k23 ?a24 ?l24 ?c24 ?k24 ?a25 ?l25 ?c25 ?k25 ?a26 ?l26 ?c26 ?k26 ?a27 ?l27 ?c27 ?k27 ?a28 ?l28 ?c28 ?k28 ?a29 ?l29 ?c29 ?k29 ?a30 ?l30 ?c30 ?k30 ?a31 ?l31 ?c31 ?k31 ?a32 ?l32 ?c32 ?k32 ?a33 ?l33 ?c33 ?k33 ?a34 ?l34 ?c34 ?k34 ?a35 ?l35 ?c35 ?k35 ?a36 ?l36 ?c36 ?k36 ?a37 ?l37 ?c37 ?k37 ?a38 ?l38 ?c38 ?k38 ?a39 ?l39 ?c39 ?k39 ?a40 ?l40 ?c40 ?k40 ?a41 ?l41 ?c41 ?k41 ?a42 ?l42 ?c42 ?k42 ?a43 ?l43 ?c43 ?k43 ?a44 ?l44 ?c44 ?k44 ?a45 ?l45 ?c45 ?k45 ?a46 ?l46 ?c46 ?k46 ?a47 ?l47 ?c47 ?k47 ?a48 ?l48 ?c48 ?k48 ?a49 ?l49 ?c49 ?k49 ?a50 ?l50 ?c50 ?k50 ?a51 ?l51 ?c51 ?k51 ?n51 ?a52 ?r52 ?g52 ?t52 ?l52 ?c52 ?k52 ?a53 ?l53 ?c53 ?k53 ?n53 ?a54 ?l54 ?c54 ?k54 ?n54 ?a55 ?r55 ?g55 ?t55 ?l55 ?c55 ?k55 ?a56 ?l56 ?c56 ?k56 ?n56 ?a57 ?l57 ?c57 ?k57 ?n57 ?y1 ?y2 ?y3 ?y4 ?y5 ?y6 ?y7 ?y8 ?y9 ?u1 ?u2 ?y1B ?y2B ?y3B ?y4B ?yB_given ?yB_rows ?yB_steps_done ?yB_undone ?u1B ?u2B ?xsf ?z_isinstance ?z_int ?z_bool ?z_tuple ?z_len ?z_all ?z_sorted ?z_abs ?z_list ?z_range ?z_enumerate ?z_str ?z_max ?z_dict ?z_super ?z_zip ?z_set ?i_MOST_WIDE ?i_MOST_STEPS ?i_MOST_FITTING ?i_MOST_LENGTH ?t_SAME ?tl_SAME ?tv_SAME ?tw_SAME ?t_FIRST ?tl_FIRST ?tv_FIRST ?rl_FIRST ?tv2_FIRST ?tw_FIRST ?tw2_FIRST ?xq ?xp ?xw ?xu ?xB ?xBt ?xBc ?xg_TooLong ?xin_TooLong ?xl_TooLong ?xti_TooLong ?xcd_TooLong ?xc_TooLong ?xv_TooLong ?xf_TooLong ?xe_TooLong ?xo_TooLong ?xr_TooLong ?xs_TooLong ?xb_TooLong ?xt_TooLong ?xk_TooLong ?xm_TooLong ?xi_TooLong ?xV_TooLong ?xa_TooLong ?xn_TooLong ?xd_TooLong ?xcl_TooLong ?xob_TooLong ?xS_TooLong ?xR_TooLong ?xg_InvalidLength ?xin_InvalidLength ?xl_InvalidLength ?xti_InvalidLength ?xcd_InvalidLength ?xc_InvalidLength ?xv_InvalidLength ?xf_InvalidLength ?xe_InvalidLength ?xo_InvalidLength ?xr_InvalidLength ?xs_InvalidLength ?xb_InvalidLength ?xt_InvalidLength ?xk_InvalidLength ?xm_InvalidLength ?xi_InvalidLength ?xV_InvalidLength ?xa_InvalidLength ?xn_InvalidLength ?xd_InvalidLength ?xcl_InvalidLength ?xob_InvalidLength ?xS_InvalidLength ?xR_InvalidLength ?xg_AllStill ?xin_AllStill ?xl_AllStill ?xti_AllStill ?xcd_AllStill ?xc_AllStill ?xv_AllStill ?xf_AllStill ?xe_AllStill ?xo_AllStill ?xr_AllStill ?xs_AllStill ?xb_AllStill ?xt_AllStill ?xk_AllStill ?xm_AllStill ?xi_AllStill ?xV_AllStill ?xa_AllStill ?xn_AllStill ?xd_AllStill ?xcl_AllStill ?xob_AllStill ?xS_AllStill ?xR_AllStill ?xg_InvalidLimit ?xin_InvalidLimit ?xl_InvalidLimit ?xti_InvalidLimit ?xcd_InvalidLimit ?xc_InvalidLimit ?xv_InvalidLimit ?xf_InvalidLimit ?xe_InvalidLimit ?xo_InvalidLimit ?xr_InvalidLimit ?xs_InvalidLimit ?xb_InvalidLimit ?xt_InvalidLimit ?xk_InvalidLimit ?xm_InvalidLimit ?xi_InvalidLimit ?xV_InvalidLimit ?xa_InvalidLimit ?xn_InvalidLimit ?xd_InvalidLimit ?xcl_InvalidLimit ?xob_InvalidLimit ?xS_InvalidLimit ?xR_InvalidLimit ?xg_InvalidSeen ?xin_InvalidSeen ?xl_InvalidSeen ?xti_InvalidSeen ?xcd_InvalidSeen ?xc_InvalidSeen ?xv_InvalidSeen ?xf_InvalidSeen ?xe_InvalidSeen ?xo_InvalidSeen ?xr_InvalidSeen ?xs_InvalidSeen ?xb_InvalidSeen ?xt_InvalidSeen ?xk_InvalidSeen ?xm_InvalidSeen ?xi_InvalidSeen ?xV_InvalidSeen ?xa_InvalidSeen ?xn_InvalidSeen ?xd_InvalidSeen ?xcl_InvalidSeen ?xob_InvalidSeen ?xS_InvalidSeen ?xR_InvalidSeen ?xF_InvalidSeen
    (case yC => k_is); (case yB => k_is); (case a0 => k_is); (case l0 => k_is); (case c0 => k_is); (case k0 => k_is); (case a1 => k_is); (case l1 => k_is); (case c1 => k_is); (case k1 => k_is); (case a2 => k_is); (case l2 => k_is); (case c2 => k_is); (case k2 => k_is); (case a3 => k_is); (case l3 => k_is); (case c3 => k_is); (case k3 => k_is); (case a4 => k_is); (case l4 => k_is); (case c4 => k_is); (case k4 => k_is); (case a5 => k_is); (case l5 => k_is); (case c5 => k_is); (case k5 => k_is); (case a6 => k_is); (case l6 => k_is); (case c6 => k_is); (case k6 => k_is); (case a7 => k_is); (case l7 => k_is); (case c7 => k_is); (case k7 => k_is); (case a8 => k_is); (case l8 => k_is); (case c8 => k_is); (case k8 => k_is); (case a9 => k_is); (case l9 => k_is); (case c9 => k_is); (case k9 => k_is); (case a10 => k_is); (case l10 => k_is); (case c10 => k_is); (case k10 => k_is); (case a11 => k_is); (case l11 => k_is); (case c11 => k_is); (case k11 => k_is); (case a12 => k_is); (case l12 => k_is); (case c12 => k_is); (case k12 => k_is); (case a13 => k_is); (case l13 => k_is); (case c13 => k_is); (case k13 => k_is); (case a14 => k_is); (case l14 => k_is); (case c14 => k_is); (case k14 => k_is); (case a15 => k_is); (case l15 => k_is); (case c15 => k_is); (case k15 => k_is); (case a16 => k_is); (case l16 => k_is); (case c16 => k_is); (case k16 => k_is); (case a17 => k_is); (case l17 => k_is); (case c17 => k_is); (case k17 => k_is); (case a18 => k_is); (case l18 => k_is); (case c18 => k_is); (case k18 => k_is); (case a19 => k_is); (case l19 => k_is); (case c19 => k_is); (case k19 => k_is); (case a20 => k_is); (case l20 => k_is); (case c20 => k_is); (case k20 => k_is); (case a21 => k_is); (case l21 => k_is); (case c21 => k_is); (case k21 => k_is); (case a22 => k_is); (case l22 => k_is); (case c22 => k_is); (case k22 => k_is); (case a23 => k_is); (case l23 => k_is); (case c23 => k_is); (case k23 => k_is); (case a24 => k_is); (case l24 => k_is); (case c24 => k_is); (case k24 => k_is); (case a25 => k_is); (case l25 => k_is); (case c25 => k_is); (case k25 => k_is); (case a26 => k_is); (case l26 => k_is); (case c26 => k_is); (case k26 => k_is); (case a27 => k_is); (case l27 => k_is); (case c27 => k_is); (case k27 => k_is); (case a28 => k_is); (case l28 => k_is); (case c28 => k_is); (case k28 => k_is); (case a29 => k_is); (case l29 => k_is); (case c29 => k_is); (case k29 => k_is); (case a30 => k_is); (case l30 => k_is); (case c30 => k_is); (case k30 => k_is); (case a31 => k_is); (case l31 => k_is); (case c31 => k_is); (case k31 => k_is); (case a32 => k_is); (case l32 => k_is); (case c32 => k_is); (case k32 => k_is); (case a33 => k_is); (case l33 => k_is); (case c33 => k_is); (case k33 => k_is); (case a34 => k_is); (case l34 => k_is); (case c34 => k_is); (case k34 => k_is); (case a35 => k_is); (case l35 => k_is); (case c35 => k_is); (case k35 => k_is); (case a36 => k_is); (case l36 => k_is); (case c36 => k_is); (case k36 => k_is); (case a37 => k_is); (case l37 => k_is); (case c37 => k_is); (case k37 => k_is); (case a38 => k_is); (case l38 => k_is); (case c38 => k_is); (case k38 => k_is); (case a39 => k_is); (case l39 => k_is); (case c39 => k_is); (case k39 => k_is); (case a40 => k_is); (case l40 => k_is); (case c40 => k_is); (case k40 => k_is); (case a41 => k_is); (case l41 => k_is); (case c41 => k_is); (case k41 => k_is); (case a42 => k_is); (case l42 => k_is); (case c42 => k_is); (case k42 => k_is); (case a43 => k_is); (case l43 => k_is); (case c43 => k_is); (case k43 => k_is); (case a44 => k_is); (case l44 => k_is); (case c44 => k_is); (case k44 => k_is); (case a45 => k_is); (case l45 => k_is); (case c45 => k_is); (case k45 => k_is); (case a46 => k_is); (case l46 => k_is); (case c46 => k_is); (case k46 => k_is); (case a47 => k_is); (case l47 => k_is); (case c47 => k_is); (case k47 => k_is); (case a48 => k_is); (case l48 => k_is); (case c48 => k_is); (case k48 => k_is); (case a49 => k_is); (case l49 => k_is); (case c49 => k_is); (case k49 => k_is); (case a50 => k_is); (case l50 => k_is); (case c50 => k_is); (case k50 => k_is); (case a51 => k_is); (case l51 => k_is); (case c51 => k_is); (case k51 => k_is); (case n51 => k_is); (case a52 => k_is); (case r52 => k_is); (case g52 => k_is); (case t52 => k_is); (case l52 => k_is); (case c52 => k_is); (case k52 => k_is); (case a53 => k_is); (case l53 => k_is); (case c53 => k_is); (case k53 => k_is); (case n53 => k_is); (case a54 => k_is); (case l54 => k_is); (case c54 => k_is); (case k54 => k_is); (case n54 => k_is); (case a55 => k_is); (case r55 => k_is); (case g55 => k_is); (case t55 => k_is); (case l55 => k_is); (case c55 => k_is); (case k55 => k_is); (case a56 => k_is); (case l56 => k_is); (case c56 => k_is); (case k56 => k_is); (case n56 => k_is); (case a57 => k_is); (case l57 => k_is); (case c57 => k_is); (case k57 => k_is); (case n57 => k_is); (case y1 => k_is); (case y2 => k_is); (case y3 => k_is); (case y4 => k_is); (case y5 => k_is); (case y6 => k_is); (case y7 => k_is); (case y8 => k_is); (case y9 => k_is); (case u1 => k_is); (case u2 => k_is); (case y1B => k_is); (case y2B => k_is); (case y3B => k_is); (case y4B => k_is); (case yB_given => k_is); (case yB_rows => k_is); (case yB_steps_done => k_is); (case yB_undone => k_is); (case u1B => k_is); (case u2B => k_is); (case xsf => k_is); (case z_isinstance => k_is); (case z_int => k_is); (case z_bool => k_is); (case z_tuple => k_is); (case z_len => k_is); (case z_all => k_is); (case z_sorted => k_is); (case z_abs => k_is); (case z_list => k_is); (case z_range => k_is); (case z_enumerate => k_is); (case z_str => k_is); (case z_max => k_is); (case z_dict => k_is); (case z_super => k_is); (case z_zip => k_is); (case z_set => k_is); (case i_MOST_WIDE => k_is); (case i_MOST_STEPS => k_is); (case i_MOST_FITTING => k_is); (case i_MOST_LENGTH => k_is); (case t_SAME => k_is); (case tl_SAME => k_is); (case tv_SAME => rfl); (case tw_SAME => decide); (case t_FIRST => k_is); (case tl_FIRST => k_is); (case tv_FIRST => rfl); (case rl_FIRST => k_is); (case tv2_FIRST => rfl); (case tw_FIRST => decide); (case tw2_FIRST => decide); (case xq => k_is); (case xp => first | rfl | decide +kernel); (case xw => k_is); (case xu => k_is); (case xB => k_is); (case xBt => k_is); (case xBc => k_is); (case xg_TooLong => k_is); (case xin_TooLong => k_is); (case xl_TooLong => k_is); (case xti_TooLong => k_is); (case xcd_TooLong => k_is); (case xc_TooLong => k_is); (case xv_TooLong => rfl); (case xf_TooLong => first | rfl | decide +kernel); (case xe_TooLong => k_is); (case xo_TooLong => k_is); (case xr_TooLong => rfl); (case xs_TooLong => k_is); (case xb_TooLong => k_is); (case xt_TooLong => k_is); (case xk_TooLong => k_is); (case xm_TooLong => k_is); (case xi_TooLong => first | ks_is | rfl); (case xV_TooLong => k_is); (case xa_TooLong => k_is); (case xn_TooLong => k_is); (case xd_TooLong => k_is); (case xcl_TooLong => k_is); (case xob_TooLong => k_is); (case xS_TooLong => k_is); (case xR_TooLong => k_is); (case xg_InvalidLength => k_is); (case xin_InvalidLength => k_is); (case xl_InvalidLength => k_is); (case xti_InvalidLength => k_is); (case xcd_InvalidLength => k_is); (case xc_InvalidLength => k_is); (case xv_InvalidLength => rfl); (case xf_InvalidLength => first | rfl | decide +kernel); (case xe_InvalidLength => k_is); (case xo_InvalidLength => k_is); (case xr_InvalidLength => rfl); (case xs_InvalidLength => k_is); (case xb_InvalidLength => k_is); (case xt_InvalidLength => k_is); (case xk_InvalidLength => k_is); (case xm_InvalidLength => k_is); (case xi_InvalidLength => first | ks_is | rfl); (case xV_InvalidLength => k_is); (case xa_InvalidLength => k_is); (case xn_InvalidLength => k_is); (case xd_InvalidLength => k_is); (case xcl_InvalidLength => k_is); (case xob_InvalidLength => k_is); (case xS_InvalidLength => k_is); (case xR_InvalidLength => k_is); (case xg_AllStill => k_is); (case xin_AllStill => k_is); (case xl_AllStill => k_is); (case xti_AllStill => k_is); (case xcd_AllStill => k_is); (case xc_AllStill => k_is); (case xv_AllStill => rfl); (case xf_AllStill => first | rfl | decide +kernel); (case xe_AllStill => k_is); (case xo_AllStill => k_is); (case xr_AllStill => rfl); (case xs_AllStill => k_is); (case xb_AllStill => k_is); (case xt_AllStill => k_is); (case xk_AllStill => k_is); (case xm_AllStill => k_is); (case xi_AllStill => first | ks_is | rfl); (case xV_AllStill => k_is); (case xa_AllStill => k_is); (case xn_AllStill => k_is); (case xd_AllStill => k_is); (case xcl_AllStill => k_is); (case xob_AllStill => k_is); (case xS_AllStill => k_is); (case xR_AllStill => k_is); (case xg_InvalidLimit => k_is); (case xin_InvalidLimit => k_is); (case xl_InvalidLimit => k_is); (case xti_InvalidLimit => k_is); (case xcd_InvalidLimit => k_is); (case xc_InvalidLimit => k_is); (case xv_InvalidLimit => rfl); (case xf_InvalidLimit => first | rfl | decide +kernel); (case xe_InvalidLimit => k_is); (case xo_InvalidLimit => k_is); (case xr_InvalidLimit => rfl); (case xs_InvalidLimit => k_is); (case xb_InvalidLimit => k_is); (case xt_InvalidLimit => k_is); (case xk_InvalidLimit => k_is); (case xm_InvalidLimit => k_is); (case xi_InvalidLimit => first | ks_is | rfl); (case xV_InvalidLimit => k_is); (case xa_InvalidLimit => k_is); (case xn_InvalidLimit => k_is); (case xd_InvalidLimit => k_is); (case xcl_InvalidLimit => k_is); (case xob_InvalidLimit => k_is); (case xS_InvalidLimit => k_is); (case xR_InvalidLimit => k_is); (case xg_InvalidSeen => k_is); (case xin_InvalidSeen => k_is); (case xl_InvalidSeen => k_is); (case xti_InvalidSeen => k_is); (case xcd_InvalidSeen => k_is); (case xc_InvalidSeen => k_is); (case xv_InvalidSeen => rfl); (case xf_InvalidSeen => first | rfl | decide +kernel); (case xe_InvalidSeen => k_is); (case xo_InvalidSeen => k_is); (case xr_InvalidSeen => rfl); (case xs_InvalidSeen => k_is); (case xb_InvalidSeen => k_is); (case xt_InvalidSeen => k_is); (case xk_InvalidSeen => k_is); (case xm_InvalidSeen => k_is); (case xi_InvalidSeen => first | ks_is | rfl); (case xV_InvalidSeen => k_is); (case xa_InvalidSeen => k_is); (case xn_InvalidSeen => k_is); (case xd_InvalidSeen => k_is); (case xcl_InvalidSeen => k_is); (case xob_InvalidSeen => k_is); (case xS_InvalidSeen => k_is); (case xR_InvalidSeen => k_is); (case xF_InvalidSeen => k_is)

