/- The seat's table stands for the program. Conditions: none. -/
import Derived.Test.YtkkcblfoaldckaaCj
import Derived.Test.YtkkcblfoaldckaaCx
set_option linter.unusedVariables false
set_option linter.unusedSimpArgs false
set_option linter.unusedSectionVars false
namespace Go.Proofs.Ytkkcblfoaldckaa
open Go
theorem entFT (G : Nat → Option (List AV)) : EntOk Try.prog G FT := by
  intro f ent hf
  unfold FT at hf
  split at hf
  · cases hf; exact chk_ref11_Same
  · cases hf; exact chk_ref11_All
  · cases hf; exact chk_vt_New
  · cases hf; exact chk_vt_point
  · cases hf; exact chk_vt_ground
  · cases hf; exact ext_slices_Clone_rune G
  · cases hf; exact chk_vt_Parser_end
  · cases hf; exact chk_vt_Parser_between
  · cases hf; exact chk_vt_Parser_param
  · cases hf; exact chk_vt_sequence
  · cases hf; exact chk_vt_text
  · cases hf; exact chk_vt_escape
  · cases hf; exact chk_vt_Parser_one
  · cases hf; exact chk_vt_Parser_Put
  · cases hf; exact chk_vt_Parse
  · cases hf; exact chk_law11_known
  · cases hf; exact chk_vt_Parser_Idle
  · cases hf; exact ext_slices_Clone_int G
  · cases hf; exact chk_vt_Parser_Copy
  · cases hf; exact chk_ref11_Parser_stringed
  · cases hf; exact chk_ref11_Parser_told
  · cases hf; exact chk_ref11_word
  · cases hf; exact chk_ref11_csi
  · cases hf; exact chk_ref11_esc
  · cases hf; exact chk_ref11_Parser_one
  · cases hf; exact chk_ref11_Parser_Put
  · cases hf; exact chk_law11_VtPlays
  · cases hf
end Go.Proofs.Ytkkcblfoaldckaa
