import Derived.Test.YtkhkbenihjngpaaTAQ
import Derived.Test.YtkhkbenihjngpaaBaseC
set_option linter.all false
namespace Go.Sx
open Go Go.Sx Go.Sx.TA
theorem WindowLives_row (xs : List AV) (H : Heap) (_ : AllRo H) (h : AllIs [.sl [.int .u64], .one (.int .u64)] xs H) : ∃ H', aditlaw15_WindowLives xs H = some (.bool true, H') := by
  obtain ⟨a, _, rfl, ha, h⟩ := allIs_cons h
  obtain ⟨b, _, rfl, hb, h⟩ := allIs_cons h
  obtain rfl := allIs_nil h
  obtain ⟨l, hl, _⟩ := is_sl enc_u64 ha
  obtain ⟨n, rfl⟩ := is_u64 hb
  exact ⟨_, windowLives hl n⟩
theorem WindowOnce_row (xs : List AV) (H : Heap) (_ : AllRo H) (h : AllIs [.sl [.int .u64]] xs H) : ∃ H', aditlaw15_WindowOnce xs H = some (.bool true, H') := by
  obtain ⟨a, _, rfl, ha, h⟩ := allIs_cons h
  obtain rfl := allIs_nil h
  obtain ⟨l, hl, _⟩ := is_sl enc_u64 ha
  exact windowOnce hl
theorem WindowTakes_row (xs : List AV) (H : Heap) (_ : AllRo H) (h : AllIs [.sl [.int .u64], .one (.int .u64)] xs H) : ∃ H', aditlaw15_WindowTakes xs H = some (.bool true, H') := by
  obtain ⟨a, _, rfl, ha, h⟩ := allIs_cons h
  obtain ⟨b, _, rfl, hb, h⟩ := allIs_cons h
  obtain rfl := allIs_nil h
  obtain ⟨l, hl, _⟩ := is_sl enc_u64 ha
  obtain ⟨n, rfl⟩ := is_u64 hb
  exact windowTakes hl n
theorem WindowRefuses_row (xs : List AV) (H : Heap) (_ : AllRo H) (h : AllIs [.sl [.int .u64]] xs H) : ∃ H', aditlaw15_WindowRefuses xs H = some (.bool true, H') := by
  obtain ⟨a, _, rfl, ha, h⟩ := allIs_cons h
  obtain rfl := allIs_nil h
  obtain ⟨l, hl, _⟩ := is_sl enc_u64 ha
  exact windowRefuses hl
theorem WindowOrder_row (xs : List AV) (H : Heap) (_ : AllRo H) (h : AllIs [.one (.int .u64), .sl [.int .u8], .one (.int .i64)] xs H) : ∃ H', aditlaw15_WindowOrder xs H = some (.bool true, H') := by
  obtain ⟨a, _, rfl, ha, h⟩ := allIs_cons h
  obtain ⟨b, _, rfl, hb, h⟩ := allIs_cons h
  obtain ⟨c, _, rfl, hc, h⟩ := allIs_cons h
  obtain rfl := allIs_nil h
  obtain ⟨n, rfl⟩ := is_u64 ha
  obtain ⟨l, hl, _⟩ := is_sl enc_u8 hb
  obtain ⟨t, rfl, h1, h2⟩ := is_i64 hc
  exact windowOrder hl n t h1 h2
end Go.Sx
