/- What a row's arguments hold, told as the printed contracts want it: structs and slices of structs, opened to lists of plain Lean values. -/
import Derived.Deep.Slices
import Derived.Deep.Fields
import Derived.ChangeSame
import Derived.Carry
import Derived.RowKit
import Derived.SizedLaws
import Derived.Test.YtmfidodcpbochaaWWords
namespace Go.Proofs.Ytmfidodcpbochaa.Open
open Go.ChangeShapes Go.WideShapes Go.Deep Go.RowKit Go.Proofs.YtmfidodcpbochaaW.PrintWords

/-- Whatever reads as data of type e in some memory is told by the kind d, and the told value is of its kind. -/
def Opens (P : Program) (e : TypeId) {α : Type} (d : Kd α) (WF : α → Prop) : Prop :=
  ∀ (H : Type) (enc : TypeId × Value → H) (w : World) (base : Nat) (spare : Nat → Bool) (held : Bool) (fuel : Nat) (cs : List Value) (x : DataW H × List MemPlace),
    DataW.trod enc P w base spare held fuel e cs = some x → ∃ v : α, d.K w v cs ∧ WF v

theorem opens_int {P : Program} {e : TypeId} {k : IntKind} (h : P.underlying e = some (.int k)) : Opens P e (Kd.int k) (fun n => (Lit.int k n).wf = true) := by
  intro H enc w base spare held fuel cs x hx
  obtain ⟨n, rfl, _, hw⟩ := DataW.trod_int h hx
  exact ⟨n, rfl, hw⟩
theorem opens_bool {P : Program} {e : TypeId} (h : P.underlying e = some .bool) : Opens P e Kd.bool (fun _ => True) := by
  intro H enc w base spare held fuel cs x hx
  obtain ⟨n, rfl, _⟩ := DataW.trod_bool h hx
  exact ⟨n, rfl, trivial⟩
theorem opens_string {P : Program} {e : TypeId} (h : P.underlying e = some .string) : Opens P e Kd.string (fun s => s.size ≤ maxLen) := by
  intro H enc w base spare held fuel cs x hx
  obtain ⟨n, rfl, _, hw⟩ := DataW.trod_string h hx
  exact ⟨n, rfl, hw⟩
theorem opens_iso {P : Program} {e : TypeId} {α β : Type} {d : Kd α} {W : α → Prop} (f : β → α) (g : α → β) (hg : ∀ a, f (g a) = a) (h : Opens P e d W) :
    Opens P e (Kd.iso d f) (fun x => W (f x)) := by
  intro H enc w base spare held fuel cs x hx
  obtain ⟨v, hv, hW⟩ := h H enc w base spare held fuel cs x hx
  refine ⟨g v, ?_, by show W (f (g v)); rw [hg]; exact hW⟩
  show d.K w (f (g v)) cs
  rw [hg]
  exact hv

/-- A struct's fields from number j on, which begin at cell off. -/
def Tail (P : Program) (fs : Array Field) (off : Nat) {α : Type} (d : Kd α) (WF : α → Prop) : Prop :=
  ∀ (H : Type) (enc : TypeId × Value → H) (w : World) (base : Nat) (spare : Nat → Bool) (held : Bool) (n : Nat) (cs : List Value) (tot : Nat),
    cs.length = off + d.sz → tot = cs.length →
    (∀ (i : Nat) (f : Field), fs[i]? = some f → ∃ y, DataW.trod enc P w base spare held n f.type ((cs.drop f.offset).take (P.cellsOf f.type)) = some y) →
    ∃ v : α, d.K w v (cs.drop off) ∧ WF v

theorem tail_last {P : Program} {fs : Array Field} {off : Nat} {α : Type} {d : Kd α} {WF : α → Prop} (j : Nat) (e : TypeId) (h : (fs[j]?.map (fun f => (f.type, f.offset, P.cellsOf f.type))) = some (e, off, d.sz)) (ho : Opens P e d WF) :
    Tail P fs off d WF := by
  intro H enc w base spare held n cs tot hl _ hf
  obtain ⟨f, hj, hq⟩ := Option.map_eq_some_iff.1 h
  simp only [Prod.mk.injEq] at hq
  obtain ⟨h1, h2, h3⟩ := hq
  obtain ⟨y, hy⟩ := hf j f hj
  rw [h2, h3, h1, List.take_of_length_le (by rw [List.length_drop]; omega)] at hy
  exact ho H enc w base spare held n _ y hy
theorem tail_cons {P : Program} {fs : Array Field} {off : Nat} {α β : Type} {d : Kd α} {d' : Kd β} {WF : α → Prop} {WF' : β → Prop} (j : Nat) (e : TypeId)
    (h : (fs[j]?.map (fun f => (f.type, f.offset, P.cellsOf f.type))) = some (e, off, d.sz)) (ho : Opens P e d WF) (ht : Tail P fs (off + d.sz) d' WF') :
    Tail P fs off (Kd.pair d d') (fun v => WF v.1 ∧ WF' v.2) := by
  intro H enc w base spare held n cs tot hl htot hf
  obtain ⟨f, hj, hq⟩ := Option.map_eq_some_iff.1 h
  simp only [Prod.mk.injEq] at hq
  obtain ⟨h1, h2, h3⟩ := hq
  obtain ⟨y, hy⟩ := hf j f hj
  rw [h2, h3, h1] at hy
  obtain ⟨v, hv, hW⟩ := ho H enc w base spare held n _ y hy
  have hl' : cs.length = off + (d.sz + d'.sz) := hl
  obtain ⟨v', hv', hW'⟩ := ht H enc w base spare held n cs tot (by omega) htot hf
  refine ⟨(v, v'), ⟨(cs.drop off).take d.sz, cs.drop (off + d.sz), ?_, hv, hv'⟩, hW, hW'⟩
  rw [← List.drop_drop, List.take_append_drop]
theorem opens_struct {P : Program} {e : TypeId} {fs : Array Field} {α : Type} {d : Kd α} {WF : α → Prop} (h : P.underlying e = some (.struct fs)) (hc : P.cellsOf e = d.sz) (ht : Tail P fs 0 d WF) : Opens P e d WF := by
  intro H enc w base spare held fuel cs x hx
  obtain ⟨xs, n, _, _, hl, hxl, hf⟩ := DataW.trod_struct h hx
  obtain ⟨v, hv, hW⟩ := ht H enc w base spare held n cs _ (by rw [hl, hc]; omega) rfl (fun i f hi => by
    have hil : i < fs.size := (Array.getElem?_eq_some_iff.1 hi).1
    exact ⟨xs[i]'(by omega), by rw [hf i f hi, List.getElem?_eq_getElem (by omega)]⟩)
  exact ⟨v, hv, hW⟩

/-- A row of such elements. -/
theorem row_of_opens {P : Program} {t e : TypeId} {α : Type} {d : Kd α} {WF : α → Prop} {H : Type} {enc : TypeId × Value → H} {w : World} {held : Bool} {a : Option Addr} {len cap : Nat} {dd : DataW H} {ps : List MemPlace}
    (ht : P.underlying t = some (.slice e)) (hc : P.cellsOf e = d.sz) (ho : Opens P e d WF) (h : DataW.Trod enc P w 0 (fun _ => true) held t (.slice a len cap) dd ps) :
    ∃ l : List α, len = l.length ∧ Kd.C d w a l.length l ∧ l.length ≤ cap ∧ l.length ≤ maxLen ∧ ∀ x ∈ l, WF x := by
  obtain ⟨fuel, hf⟩ := h
  rcases open_slice ht hf with ⟨h0, _⟩ | ⟨x, len', cap', m, n, D, Pl, hcs, hb, hl, hm, hmm, _, hi⟩
  · simp [Value.cells] at h0
    obtain ⟨rfl, rfl, rfl⟩ := h0
    exact ⟨[], rfl, ⟨rfl, by simp, fun h => absurd h (by simp)⟩, by simp, by simp, fun x hx => by cases hx⟩
  · simp [Value.cells] at hcs
    obtain ⟨rfl, rfl, rfl⟩ := hcs
    have hm' : m = cap := by simpa using hmm
    have key : ∀ i : Fin len, ∃ v : α, ∃ cs', w.cells? 0 (x.add (i.1 * P.cellsOf e)) (P.cellsOf e) = some cs' ∧ d.K w v cs' ∧ WF v := by
      intro i
      obtain ⟨cs', h1, h2⟩ := hi i.1 (by have := i.2; omega)
      obtain ⟨v, hv, hW⟩ := ho H enc w 0 _ held n cs' _ h2
      exact ⟨v, cs', h1, hv, hW⟩
    let f : Fin len → α := fun i => Classical.choose (key i)
    have hfk : ∀ i, ∃ cs', w.cells? 0 (x.add (i.1 * P.cellsOf e)) (P.cellsOf e) = some cs' ∧ d.K w (f i) cs' ∧ WF (f i) := fun i => Classical.choose_spec (key i)
    have hlen : (List.ofFn f).length = len := List.length_ofFn
    have hmaxl : len ≤ maxLen := by omega
    refine ⟨List.ofFn f, hlen.symm, ⟨rfl, ?_, fun _ => ⟨x, rfl, fun j p hj => ?_⟩⟩, by omega, by omega, fun p hp => ?_⟩
    · rw [hlen]
      unfold maxLen at hmaxl
      omega
    · obtain ⟨hjl, he⟩ := List.getElem?_eq_some_iff.1 hj
      rw [List.getElem_ofFn] at he
      obtain ⟨cs', h1, h2, _⟩ := hfk ⟨j, by omega⟩
      obtain ⟨_, hcl, hat⟩ := World.cells?_some h1
      refine ⟨cs', by rw [hcl, hc], by rw [← he]; exact h2, fun i u hu => ?_⟩
      have hil : i < P.cellsOf e := by rw [← hcl]; exact (List.getElem?_eq_some_iff.1 hu).1
      have hz := hat i hil
      rw [← Go.Deep.add_add, ← hc]
      exact hz.trans hu
    · obtain ⟨i, hi⟩ := List.mem_ofFn.1 hp
      obtain ⟨_, _, _, hW⟩ := hfk i
      rw [← hi]
      exact hW
/-- A struct by value. -/
theorem agg_of_opens {P : Program} {t : TypeId} {fs : Array Field} {α : Type} {d : Kd α} {WF : α → Prop} {H : Type} {enc : TypeId × Value → H} {w : World} {held : Bool} {r : Reach} {b0 : Nat} {v : Value} {dd : DataW H} {ps : List MemPlace}
    (ht : P.underlying t = some (.struct fs)) (hv : Value.okWide P w r b0 t v) (ho : Opens P t d WF) (h : DataW.Trod enc P w 0 (fun _ => true) held t v dd ps) :
    ∃ (x : α) (cs : List Value), v = .agg cs.toArray ∧ d.K w x cs ∧ WF x := by
  obtain ⟨cs, rfl, _⟩ := okWide_struct ht hv
  obtain ⟨fuel, hf⟩ := h
  obtain ⟨x, hx, hW⟩ := ho H enc w 0 _ held fuel _ _ hf
  exact ⟨x, cs.toList, by simp, hx, hW⟩
end Go.Proofs.Ytmfidodcpbochaa.Open
